/- An own logic over the model, its walks and its plain laws, joined of parts R77. Conditions: as each theorem states. -/
import Derived.Test.YthphpbdmbmiaiaaLa5
set_option linter.all false
namespace Go.Proofs.Ythphpbdmbmiaiaa
open Go Go.HL Go.Proofs Go.Wx Go.Rd
section
variable [Lvl]
set_option maxRecDepth 100000
theorem putL_mem {l : List Int} {n : Int} (hn : n ∉ l) (x : Int) : x ∈ putL l n true ↔ x ∈ l ∨ x = n := by
 unfold putL
 rw [if_pos rfl, List.mem_append, List.mem_append, List.mem_singleton, List.mem_filter, List.mem_filter]
 constructor
 ·rintro ((⟨h, _⟩ | h) | ⟨h, _⟩)
  ·exact .inl h
  ·exact .inr h
  ·exact .inl h
 ·rintro (h | h)
  ·have hne : x ≠ n := fun e => hn (e ▸ h)
   rcases Int.lt_or_gt_of_ne hne with h1 | h1
   ·exact .inl (.inl ⟨h, decide_eq_true h1⟩)
   ·exact .inr ⟨h, decide_eq_true h1⟩
  ·exact .inl (.inr h)
theorem putE_zero {l : List Int} {n below : Int} (h0 : 0 ≤ n ∧ n < below) (hn : n ∉ l) : putE l n below true = 0 := by
 have h1 : ¬ inM n 0 (below - 1) = false := by
  have : inM n 0 (below - 1) = true := inM_iff.2 (by omega)
  rw [this]; decide
 rw [putE, if_neg h1, if_neg (fun y => hn y.2), if_neg (by simp)]
structure Prs (hb on s : List Int) (hd : HandP) : Prop where
 bm : ∀ x, x ∈ hd.buttons ↔ ∃ q : Nat, (q : Int) ∈ s ∧ hb[q]? = some x
 om : ∀ x, x ∈ hd.on ↔ ∃ q : Nat, ((hb.length + q : Nat) : Int) ∈ s ∧ on[q]? = some x
theorem Prs.nil (hb on : List Int) : Prs hb on [] ⟨[], []⟩ := ⟨fun x => ⟨fun h => absurd h List.not_mem_nil, fun ⟨_, h, _⟩ => absurd h List.not_mem_nil⟩, fun x => ⟨fun h => absurd h List.not_mem_nil, fun ⟨_, h, _⟩ => absurd h List.not_mem_nil⟩⟩
theorem asc_inj {l : List Int} (p : l.Pairwise (· < ·)) {i j : Nat} {x : Int} (hi : l[i]? = some x) (hj : l[j]? = some x) : i = j := by
 obtain ⟨h1, e1⟩ := List.getElem?_eq_some_iff.1 hi
 obtain ⟨h2, e2⟩ := List.getElem?_eq_some_iff.1 hj
 rcases Nat.lt_trichotomy i j with h | h | h
 ·have := List.pairwise_iff_getElem.1 p i j h1 h2 h; omega
 ·exact h
 ·have := List.pairwise_iff_getElem.1 p j i h2 h1 h; omega
theorem prs_b {m : MachP} {hb on s : List Int} {hd : HandP} (H : HOK m ⟨hb, on⟩) (P : Prs hb on s hd) {z : Nat} (hz : (z : Int) ∉ s) {v : Int} (hv : hb[z]? = some v) : stepE m hd ⟨1, v⟩ = 0 ∧ Prs hb on (s ++ [(z : Int)]) (stepH hd ⟨1, v⟩) := by
 obtain ⟨hl, hve⟩ := List.getElem?_eq_some_iff.1 hv
 have hnm : v ∉ hd.buttons := fun h => by
  obtain ⟨q, hq, e⟩ := (P.bm v).1 h
  have := asc_inj H.b.asc e hv
  subst this
  exact hz hq
 have hE : stepE m hd ⟨1, v⟩ = putE hd.buttons v m.buttons.length true := if_pos (.inl rfl)
 have hS : stepH hd ⟨1, v⟩ = ⟨putL hd.buttons v true, hd.on⟩ := if_pos (.inl rfl)
 refine ⟨by rw [hE]; exact putE_zero (H.b.mem v (by rw [← hve]; exact List.getElem_mem hl)) hnm, ?_⟩
 rw [hS]
 refine ⟨fun x => ?_, fun x => ?_⟩
 ·show x ∈ putL hd.buttons v true ↔ _
  rw [putL_mem hnm, P.bm]
  constructor
  ·rintro (⟨q, h1, h2⟩ | rfl)
   ·exact ⟨q, List.mem_append_left _ h1, h2⟩
   ·exact ⟨z, List.mem_append_right _ (List.mem_singleton.2 rfl), hv⟩
  ·rintro ⟨q, h1, h2⟩
   rcases List.mem_append.1 h1 with h1 | h1
   ·exact .inl ⟨q, h1, h2⟩
   ·have : q = z := by have := List.mem_singleton.1 h1; omega
    subst this
    rw [hv] at h2
    exact .inr (Option.some.inj h2).symm
 ·show x ∈ hd.on ↔ _
  rw [P.om]
  constructor
  ·rintro ⟨q, h1, h2⟩; exact ⟨q, List.mem_append_left _ h1, h2⟩
  ·rintro ⟨q, h1, h2⟩
   rcases List.mem_append.1 h1 with h1 | h1
   ·exact ⟨q, h1, h2⟩
   ·exfalso; have := List.mem_singleton.1 h1; omega
theorem prs_o {m : MachP} {hb on s : List Int} {hd : HandP} (H : HOK m ⟨hb, on⟩) (P : Prs hb on s hd) {z : Nat} (hz : ((hb.length + z : Nat) : Int) ∉ s) {v : Int} (hv : on[z]? = some v) : stepE m hd ⟨3, v⟩ = 0 ∧ Prs hb on (s ++ [((hb.length + z : Nat) : Int)]) (stepH hd ⟨3, v⟩) := by
 obtain ⟨hl, hve⟩ := List.getElem?_eq_some_iff.1 hv
 have hnm : v ∉ hd.on := fun h => by
  obtain ⟨q, hq, e⟩ := (P.om v).1 h
  have := asc_inj H.o.asc e hv
  subst this
  exact hz hq
 have hE : stepE m hd ⟨3, v⟩ = putE hd.on v m.regs true := (if_neg (by simp)).trans (if_pos (.inl rfl))
 have hS : stepH hd ⟨3, v⟩ = ⟨hd.buttons, putL hd.on v true⟩ := if_neg (by simp)
 refine ⟨by rw [hE]; exact putE_zero (H.o.mem v (by rw [← hve]; exact List.getElem_mem hl)) hnm, ?_⟩
 rw [hS]
 refine ⟨fun x => ?_, fun x => ?_⟩
 ·show x ∈ hd.buttons ↔ _
  rw [P.bm]
  constructor
  ·rintro ⟨q, h1, h2⟩; exact ⟨q, List.mem_append_left _ h1, h2⟩
  ·rintro ⟨q, h1, h2⟩
   rcases List.mem_append.1 h1 with h1 | h1
   ·exact ⟨q, h1, h2⟩
   ·exfalso
    have := List.mem_singleton.1 h1
    have := (List.getElem?_eq_some_iff.1 h2).1
    omega
 ·show x ∈ putL hd.on v true ↔ _
  rw [putL_mem hnm, P.om]
  constructor
  ·rintro (⟨q, h1, h2⟩ | rfl)
   ·exact ⟨q, List.mem_append_left _ h1, h2⟩
   ·exact ⟨z, List.mem_append_right _ (List.mem_singleton.2 rfl), hv⟩
  ·rintro ⟨q, h1, h2⟩
   rcases List.mem_append.1 h1 with h1 | h1
   ·exact .inl ⟨q, h1, h2⟩
   ·have : q = z := by have := List.mem_singleton.1 h1; omega
    subst this
    rw [hv] at h2
    exact .inr (Option.some.inj h2).symm
theorem prs_all {m : MachP} {hb on s : List Int} {hd : HandP} (H : HOK m ⟨hb, on⟩) (P : Prs hb on s hd) (K : HOK m hd) (all : ∀ j : Nat, j < hb.length + on.length → (j : Int) ∈ s) : hd = ⟨hb, on⟩ := by
 have e1 : hd.buttons = hb := asc_ext K.b.asc H.b.asc fun x => by
  rw [P.bm]
  constructor
  ·rintro ⟨q, _, h⟩; exact List.mem_of_getElem? h
  ·intro h
   obtain ⟨q, hq, e⟩ := List.getElem_of_mem h
   exact ⟨q, all q (by omega), by rw [List.getElem?_eq_getElem hq, e]⟩
 have e2 : hd.on = on := asc_ext K.o.asc H.o.asc fun x => by
  rw [P.om]
  constructor
  ·rintro ⟨q, _, h⟩; exact List.mem_of_getElem? h
  ·intro h
   obtain ⟨q, hq, e⟩ := List.getElem_of_mem h
   exact ⟨q, all _ (by omega), by rw [List.getElem?_eq_getElem hq, e]⟩
 cases hd
 simp only at e1 e2
 rw [e1, e2]
structure Run (m : MachP) (es : List EvP) (hd : HandP) : Prop where
 e : (goM m es).e = 0
 a : (goM m es).a = hd
 len : (goM m es).out.length = es.length
 last : 0 < es.length → (goM m es).out[es.length - 1]? = some (listN (soundsM m hd m.travel) 6)
theorem Run.nil (m : MachP) : Run m [] ⟨[], []⟩ := ⟨rfl, rfl, rfl, fun h => absurd h (by decide)⟩
theorem Run.snoc {m : MachP} {es : List EvP} {hd : HandP} {x : EvP} (r : Run m es hd) (h : stepE m hd x = 0) : Run m (es ++ [x]) (stepH hd x) := by
 have e1 : goM m (es ++ [x]) = playS m (goM m es) x := by rw [goM, List.foldl_append]; rfl
 have e2 : goM m (es ++ [x]) = ⟨0, stepH hd x, (goM m es).out ++ [listN (soundsM m (stepH hd x) m.travel) 6]⟩ := by
  rw [e1, playS, if_neg (by simp [r.e]), r.a, if_neg (by simp [h])]
 refine ⟨by rw [e2], by rw [e2], by rw [e2]; simp [r.len], fun _ => ?_⟩
 rw [e2]
 show ((goM m es).out ++ [_])[_]? = _
 rw [List.length_append, List.length_singleton, Nat.add_sub_cancel, ← r.len, List.getElem?_append_right (Nat.le_refl _), Nat.sub_self]
 rfl
theorem Run.twice {m : MachP} {b0 : Int} (h : 0 ≤ b0 ∧ b0 < m.buttons.length) : Run m [⟨1, b0⟩, ⟨2, b0⟩] ⟨[], []⟩ := by
 have s1 : stepE m ⟨[], []⟩ ⟨1, b0⟩ = 0 := (if_pos (.inl rfl) : stepE m ⟨[], []⟩ ⟨1, b0⟩ = putE [] b0 m.buttons.length true).trans (putE_zero h List.not_mem_nil)
 have r1 := (Run.nil m).snoc s1
 have h1 : stepH ⟨[], []⟩ ⟨1, b0⟩ = ⟨[b0], []⟩ := if_pos (.inl rfl)
 rw [h1] at r1
 have s2 : stepE m ⟨[b0], []⟩ ⟨2, b0⟩ = 0 := by
  have : stepE m ⟨[b0], []⟩ ⟨2, b0⟩ = putE [b0] b0 m.buttons.length false := if_pos (.inr rfl)
  rw [this]
  have h1 : ¬ inM b0 0 ((m.buttons.length : Int) - 1) = false := by
   have : inM b0 0 ((m.buttons.length : Int) - 1) = true := inM_iff.2 (by omega)
   rw [this]; decide
  rw [putE, if_neg h1, if_neg (by simp), if_neg (by simp)]
 have r2 := r1.snoc s2
 have h2 : stepH ⟨[b0], []⟩ ⟨2, b0⟩ = ⟨[], []⟩ := by
  have : stepH ⟨[b0], []⟩ ⟨2, b0⟩ = ⟨putL [b0] b0 false, []⟩ := if_pos (.inr rfl)
  rw [this, putL, if_neg (by simp)]
  simp
 rw [h2] at r2
 exact r2
theorem ord_all {o : List Int} {n : Nat} (O : Order o n) : ∀ j : Nat, j < n → (j : Int) ∈ o := by
 intro r h1
 obtain ⟨i, hi, e⟩ := inj_surj n (ordN o) (fun i hi => (O.ordN hi).2) (fun i k hi hk => O.ordN_inj hi hk) r h1
 have h2 := (O.ordN hi).1
 rw [e] at h2
 exact List.mem_of_getElem? h2
theorem ord_new {o : List Int} {n k : Nat} (O : Order o n) (hk : k < n) {z : Int} (hz : o[k]? = some z) : z ∉ o.take k := by
 intro h
 obtain ⟨i, hi, e⟩ := List.getElem_of_mem h
 rw [List.length_take] at hi
 rw [List.getElem_take] at e
 have : o[i]? = o[k]? := by rw [hz, List.getElem?_eq_getElem (by omega), e]
 have := O.inj i k (by omega) hk this
 omega
set_option maxHeartbeats 16000000 in
theorem order_runs (w : World) (l : List Int) (hl : l.length < 2 ^ 63) (A : Option Addr) (c : Nat) (R : Row (absH w.heap) 1 intC A l) :
  RunsTrue Try.prog 16 #[.slice A l.length c] w := by
 letI : Lvl := ⟨true, none, none⟩
 refine runs_body Try.func16 rfl Try.ntmps16 rfl Try.results16 rfl (by kernel_rfl) fun h hh => ?_
 rw [← hh] at R
 refine qD ?_
 refine qB rfl ?_
 refine qA (qE (v := .bool _) rfl) ?_
 refine qD ?_
 refine qB rfl ?_
 refine qA (qC (v := .slice _ _ _) rfl) ?_
 refine op_fnMM [] [] [] rfl rfl rfl ((NewPot_ok l hl A c h (R.ext (Ext.refl _)))) ?_
 rintro _ h1 _ E1 ⟨b, x, rfl, rfl⟩
 refine qH [_] rfl ?_
 refine qA (qE (v := .pointer _) rfl) ?_
 refine qD ?_
 refine qB rfl ?_
 refine qA (qC (v := .pointer _) rfl) ?_
 refine op_fnMM [] [_] [] (vs := _) rfl rfl rfl ((MachineOf_okC b x 6 8 4 (by omega) (by omega) (by omega) h1)) ?_
 rintro _ h2 _ E2 ⟨x2, m, rfl, VM, Md, hCap⟩
 refine qH [_] rfl ?_
 obtain ⟨AB, AQ, AL, AW, cB, cQ, cL, cW, rfl, RM⟩ := VM.open
 obtain ⟨hcQ, hcL⟩ := hCap _ _ _ _ _ _ _ _ _ rfl
 have M := Md.ok
 have mbl := M.bl
 have mrg := M.regs
 have mwl := M.wl
 have mlv := M.levers
 refine wW (cs := [_, _, _, _, _, _, _, _, _]) rfl rfl fun b4 hb4 => ?_
 refine qH [_, _] rfl ?_
 refine qY 1 (v := .agg #[.int .i64 _, .int .i64 _, .int .i64 _, .int .i64 _, .int .i64 _, .slice _ _ _, .slice _ _ _, .slice _ _ _, .slice _ _ _]) (vs := [_, _, _, _, _, _, _, _, _]) (c' := [_, _, _, _, _, _, _, _, _]) rfl rfl rfl rfl rfl rfl rfl rfl rfl ?_
 refine qH [_, _] rfl ?_
 refine qD ?_
 refine qB rfl ?_
 refine qA (qC (v := .pointer _) rfl) ?_
 refine wH 1 (vs := [.int .i64 _, .int .i64 _, .int .i64 _, .int .i64 _, .int .i64 _, .slice _ _ _, .slice _ _ _, .slice _ _ _, .slice _ _ _]) rfl rfl rfl rfl rfl ?_
 refine op_fnMM [] [_] [_] (vs := _) rfl rfl rfl ((HandOf_ok b x2 m (by omega) (by omega) AB AQ AL AW cB cQ cL cW h2)) ?_
 rintro _ h3 _ E3 ⟨x3, a1, rfl, VH, H⟩
 refine qH [_, _] rfl ?_
 obtain ⟨HA, OA, cH, cO, rfl, RH⟩ := VH.open
 have hb4 : a1.buttons.length ≤ m.buttons.length := set_len H.b
 have ho2 : a1.on.length ≤ m.regs.toNat := set_len (below := m.regs.toNat) (by have := H.o; rwa [← Int.toNat_of_nonneg mrg.1] at this)
 refine wW (cs := [_, _]) rfl rfl fun b5 hb5 => ?_
 refine qH [_, _, _] rfl ?_
 refine qY 2 (v := .agg #[.slice _ _ _, .slice _ _ _]) (vs := [_, _]) (c' := [_, _]) rfl rfl rfl rfl rfl rfl rfl rfl rfl ?_
 refine qH [_, _, _] rfl ?_
 refine qD ?_
 refine qB rfl ?_
 refine qA (qE (v := .slice _ _ _) rfl) ?_
 refine goes_more ?_
 refine qR [_, _, _, _] rfl ?_
 refine xp_cutB [6, 20, 21, 22, 23, 24, 25, 26, 27, 28, 29, 30, 31, 32, 33, 34, 35, 36, 37, 38, 39, 40] 4 (α := Nat × Acc × List EvP) (fun ⟨y, a, es⟩ => [(6, .slice a.A a.n a.c)]) (fun ⟨y, a, es⟩ L => (L.set 0 (some (b, .cells #[.int .u64 (y : Int)] 97 (0, 0)))).set 3 (a.p)) (fun ⟨y, a, es⟩ h_y => AccR 90 2 (es.flatMap evC) a ∧ Run m es ⟨[], []⟩ ∧ es.length ≤ 2) ?_ ?_
 ·skip
  rcases Bool.eq_false_or_eq_true (decide ((a1.buttons.length : Int) > (0 : Int))) with hb | hb
  ·have hb0 : 0 < a1.buttons.length := by have := of_decide_eq_true hb; omega
   refine qD ?_
   refine qB rfl ?_
   refine qA (qF rfl rfl rfl rfl 0 rfl) ?_
   refine qJ 2 (v := .slice _ _ _) rfl rfl rfl rfl ?_
   refine qA (wQ rfl rfl) ?_
   refine qA (qN (v := .bool _) rfl) ?_
   refine qA (qC (v := .bool _) rfl) ?_
   refine qI rfl hb ?_
   refine qA (qC (v := .pointer _) rfl) ?_
   refine qI rfl hb ?_
   refine op_fnMM [] [_] [_, _, _] (vs := [.pointer _, .int .i64 _, .int .i64 _]) rfl rfl rfl ((Odds_ok b x3 1 2 (by omega) h3)) ?_
   rintro _ h4 _ E4 ⟨x4, u, rfl, rfl⟩
   refine qH [_, _, _, _] rfl ?_
   refine qA (wO rfl hb (v := .bool _) rfl) ?_
   refine qT rfl (fun hu => ?_) (fun hu => ?_)
   ·skip
    obtain ⟨g, off, hA, hc⟩ := (RH.b.ext E4).at (by omega) hb0
    obtain ⟨v0, hv0⟩ : ∃ v0, v0 = a1.buttons[0] := ⟨_, rfl⟩
    rw [← hv0] at hc
    have hvb := H.b.mem v0 (by rw [hv0]; exact List.getElem_mem hb0)
    refine xp_dw [] rfl rfl rfl ?_
    refine qG (i := 0) rfl (by decide +kernel) (qC (v := .slice _ _ _) rfl) ?_
    refine qG (i := 1) rfl (by decide +kernel) (qF rfl rfl rfl rfl 0 rfl) ?_
    refine wE (i := 2) rfl (by decide +kernel) ?_
    refine qJ 2 (v := .slice _ _ _) rfl rfl rfl rfl ?_
    refine qG (i := 3) rfl (by decide +kernel) (wL rfl hA rfl rfl rfl (by omega) (by omega)) ?_
    refine wE (i := 4) rfl (by decide +kernel) ?_
    refine wM (v := .int .i64 _) rfl rfl ((hc) 0 _ rfl) ?_
    refine qG (i := 5) rfl (by decide +kernel) (pv_build (zc := [_, _]) (vs := [(0, .int .i64 _), (1, .int .i64 _)]) (cs := [_, _]) rfl rfl rfl rfl rfl rfl) ?_
    refine qG (i := 6) rfl (by decide +kernel) (qF rfl rfl rfl rfl 0 rfl) ?_
    refine wE (i := 7) rfl (by decide +kernel) ?_
    refine qJ 2 (v := .slice _ _ _) rfl rfl rfl rfl ?_
    refine qG (i := 8) rfl (by decide +kernel) (wL rfl hA rfl rfl rfl (by omega) (by omega)) ?_
    refine wE (i := 9) rfl (by decide +kernel) ?_
    refine wM (v := .int .i64 _) rfl rfl ((hc) 0 _ rfl) ?_
    refine qG (i := 10) rfl (by decide +kernel) (pv_build (zc := [_, _]) (vs := [(0, .int .i64 _), (1, .int .i64 _)]) (cs := [_, _]) rfl rfl rfl rfl rfl rfl) ?_
    refine wV (i := 11) rfl (by decide +kernel) (by decide +kernel) ?_
    refine qZ (zc := [_, _]) (vs := [(0, .agg #[.int .i64 _, .int .i64 _]), (1, .agg #[.int .i64 _, .int .i64 _])]) (cs := [_, _, _, _]) rfl rfl rfl rfl rfl rfl rfl fun b39 hb39 => ?_
    refine wJ [_, _, _, _, _] rfl ?_
    have acc00 : AccR 90 2 [] acc0 := accR0
    refine wV (i := 12) rfl (by decide +kernel) (by decide +kernel) ?_
    refine wY 3 acc00 rfl rfl rfl (fun V => rdP V (i := 4) rfl) rfl rfl rfl rfl rfl rfl rfl rfl rfl (by omega) rfl (by simp) fun a2 h2a E2a ha2 => ?_
    refine wJ [_, _, _, _, _] rfl ?_
    refine qG (i := 13) rfl (by decide +kernel) (qE (v := .slice _ _ _) rfl) ?_
    refine dw_end rfl ?_
    refine ⟨(x4, a2, [⟨1, v0⟩, ⟨2, v0⟩]), ⟨rfl, trivial⟩, rfl, rfl, (zA E4 E2a), fun h3 E3 => ⟨ha2, Run.twice hvb, Nat.le_refl _⟩, ?_⟩
    repeat (first | exact wS _ _ | exact qW _ _ _ | refine wB (by decide) ?_ | refine qV rfl ?_ | refine wD rfl ?_)
   ·skip
    refine qU ?_
    refine ⟨(x4, acc0, []), ⟨rfl, trivial⟩, rfl, rfl, E4, fun h3 E3 => ⟨accR0, Run.nil m, by decide⟩, ?_⟩
    repeat (first | exact wS _ _ | exact qW _ _ _ | refine wB (by decide) ?_ | refine qV rfl ?_ | refine wD rfl ?_)
  ·skip
   refine qD ?_
   refine qB rfl ?_
   refine qA (qF rfl rfl rfl rfl 0 rfl) ?_
   refine qJ 2 (v := .slice _ _ _) rfl rfl rfl rfl ?_
   refine qA (wQ rfl rfl) ?_
   refine qA (qN (v := .bool _) rfl) ?_
   refine qA (qC (v := .bool _) rfl) ?_
   refine qK rfl hb ?_
   refine qK rfl hb ?_
   refine qA (wZ rfl hb (v := .bool _) rfl) ?_
   refine xp_condF rfl (rfl) ?_
   refine qU ?_
   refine ⟨(x3, acc0, []), ⟨rfl, trivial⟩, rfl, rfl, (Ext.refl _), fun h3 E3 => ⟨accR0, Run.nil m, by decide⟩, ?_⟩
   repeat (first | exact wS _ _ | exact qW _ _ _ | refine wB (by decide) ?_ | refine qV rfl ?_ | refine wD rfl ?_)
 ·rintro ⟨y, a, es⟩ T1 h_y E_y J_y
  refine qR [_, _, _, _] rfl ?_
  obtain ⟨A0, R0, L0⟩ := J_y
  refine qD ?_
  refine qB rfl ?_
  refine qA (qC (v := .pointer _) rfl) ?_
  refine qA (qF rfl rfl rfl rfl 0 rfl) ?_
  refine qJ 2 (v := .slice _ _ _) rfl rfl rfl rfl ?_
  refine qA (wQ rfl rfl) ?_
  refine qA (qF rfl rfl rfl rfl 1 rfl) ?_
  refine qJ 2 (v := .slice _ _ _) rfl rfl rfl rfl ?_
  refine qA (wQ rfl rfl) ?_
  refine qA (qS rfl (by omega)) ?_
  obtain ⟨n, hn⟩ : ∃ n, n = a1.buttons.length + a1.on.length := ⟨_, rfl⟩
  refine op_fnMM [] [_] [_, _, _] (vs := [.pointer _, .int .i64 _]) rfl rfl rfl (fnM_args (by simp only [List.cons.injEq, Value.int.injEq, true_and, and_true]; omega) (Mix_ok b y n (by omega) h_y)) ?_
  rintro _ h5 _ E5 ⟨x5, o, rfl, ⟨NA, cN, rfl, RO⟩, O⟩
  refine qH [_, _, _, _] rfl ?_
  have hol := O.len
  refine qA (qE (v := .slice _ _ _) rfl) ?_
  refine qD ?_
  refine qD ?_
  refine qB rfl ?_
  refine qA (qE (v := .int .i64 _) rfl) ?_
  refine qQ ?_
  refine xp_loopL [6, 8, 50, 51, 52, 53, 54, 55, 56, 57, 58, 59, 60, 61, 62, 63, 64, 65, 66, 67, 68, 69, 70, 71, 72, 73, 74, 75, 76, 77, 78, 79, 80, 81, 82, 83, 84, 85, 86, 87, 88, 89, 90, 91] 4 (α := Nat × Acc × List EvP × HandP) (fun ⟨k, a', es', hd⟩ => [(8, .int .i64 k), (6, .slice a'.A a'.n a'.c)]) (fun ⟨k, a', es', hd⟩ L => L.set 3 (a'.p)) (fun ⟨k, a', es', hd⟩ h_k => k ≤ o.length ∧ AccR 90 2 (es'.flatMap evC) a' ∧ Run m es' hd ∧ HOK m hd ∧ Prs a1.buttons a1.on (o.take k) hd ∧ es'.length ≤ 2 + k) (fun ⟨k, a', es', hd⟩ => o.length - k) ((0, a, es, ⟨[], []⟩)) ⟨rfl, rfl, trivial⟩ (rfl) (⟨Nat.zero_le _, A0, R0, hok0 m, Prs.nil _ _, L0⟩) ?_
  rintro ⟨k, a', es', hd⟩ T3 h_k E_k J_k
  refine qR [_, _, _, _] rfl ?_
  obtain ⟨K1, K2, K3, K4, K5, K6⟩ := J_k
  refine qD ?_
  refine qD ?_
  refine qB rfl ?_
  refine qA (qC (v := .int .i64 _) rfl) ?_
  refine qA (qC (v := .slice _ _ _) rfl) ?_
  refine qA (wQ rfl rfl) ?_
  refine qA (qN (v := .bool _) rfl) ?_
  refine qT rfl (fun hk => ?_) (fun hk => ?_)
  ·skip
   have hkl : k < o.length := ltI hk
   obtain ⟨z, hz, hzn⟩ := O.at' (i := k) (by omega)
   have hok : o[k] = (z : Int) := by rw [List.getElem?_eq_getElem hkl] at hz; exact Option.some.inj hz
   have hnew := ord_new O (k := k) (by omega) hz
   have htk : o.take (k + 1) = o.take k ++ [(z : Int)] := by rw [take_snoc hkl, hok]
   obtain ⟨g, off, hA, hc⟩ := (RO.ext E_k).at (by omega) hkl
   rw [hok] at hc
   refine qU ?_
   refine qD ?_
   refine qQ ?_
   refine qD ?_
   refine xp_dw [] rfl rfl rfl ?_
   refine qG (i := 0) rfl (by decide +kernel) (qC (v := .slice _ _ _) rfl) ?_
   refine qG (i := 1) rfl (by decide +kernel) (qC (v := .int .i64 _) rfl) ?_
   refine qG (i := 2) rfl (by decide +kernel) (wL rfl hA rfl rfl rfl (by omega) (by omega)) ?_
   refine wE (i := 3) rfl (by decide +kernel) ?_
   refine wM (v := .int .i64 _) rfl rfl ((hc) 0 _ rfl) ?_
   refine qG (i := 4) rfl (by decide +kernel) (qF rfl rfl rfl rfl 0 rfl) ?_
   refine wE (i := 5) rfl (by decide +kernel) ?_
   refine qJ 2 (v := .slice _ _ _) rfl rfl rfl rfl ?_
   refine qG (i := 6) rfl (by decide +kernel) (wQ rfl rfl) ?_
   refine qG (i := 7) rfl (by decide +kernel) (qN (v := .bool _) rfl) ?_
   refine dw_end rfl ?_
   refine qT rfl (fun hzb => ?_) (fun hzb => ?_)
   ·skip
    have hzl : z < a1.buttons.length := ltI hzb
    obtain ⟨g2, off2, hB, hd2⟩ := (RH.b.ext (zA (zA E_y E5) E_k)).at (by omega) hzl
    obtain ⟨hE, hP⟩ := prs_b (hb := a1.buttons) (on := a1.on) H K5 hnew (List.getElem?_eq_getElem hzl)
    generalize a1.buttons[z] = v1 at *
    refine xp_dw [] rfl rfl rfl ?_
    refine qG (i := 0) rfl (by decide +kernel) (qC (v := .slice _ _ _) rfl) ?_
    refine qG (i := 1) rfl (by decide +kernel) (qF rfl rfl rfl rfl 0 rfl) ?_
    refine wE (i := 2) rfl (by decide +kernel) ?_
    refine qJ 2 (v := .slice _ _ _) rfl rfl rfl rfl ?_
    refine qG (i := 3) rfl (by decide +kernel) (qC (v := .slice _ _ _) rfl) ?_
    refine qG (i := 4) rfl (by decide +kernel) (qC (v := .int .i64 _) rfl) ?_
    refine qG (i := 5) rfl (by decide +kernel) (wL rfl hA rfl rfl rfl (by omega) (by omega)) ?_
    refine wE (i := 6) rfl (by decide +kernel) ?_
    refine wM (v := .int .i64 _) rfl rfl ((hc) 0 _ rfl) ?_
    refine qG (i := 7) rfl (by decide +kernel) (wL rfl hB rfl rfl rfl (by omega) (by omega)) ?_
    refine wE (i := 8) rfl (by decide +kernel) ?_
    refine wM (v := .int .i64 _) rfl rfl ((hd2) 0 _ rfl) ?_
    refine qG (i := 9) rfl (by decide +kernel) (pv_build (zc := [_, _]) (vs := [(0, .int .i64 _), (1, .int .i64 _)]) (cs := [_, _]) rfl rfl rfl rfl rfl rfl) ?_
    refine wV (i := 10) rfl (by decide +kernel) (by decide +kernel) ?_
    refine qZ (zc := [_, _]) (vs := [(0, .agg #[.int .i64 _, .int .i64 _])]) (cs := [_, _]) rfl rfl rfl rfl rfl rfl rfl fun b74 hb74 => ?_
    refine wJ [_, _, _, _, _] rfl ?_
    refine wV (i := 11) rfl (by decide +kernel) (by decide +kernel) ?_
    refine wY 3 K2 rfl rfl rfl (fun V => rdP V (i := 4) rfl) rfl rfl rfl rfl rfl rfl rfl rfl rfl (by omega) rfl (by rw [wP (m := 2) (fun _ _ => rfl)]; simp only [List.length_cons, List.length_nil]; omega) fun a2 h4a E4a ha2 => ?_
    refine wJ [_, _, _, _, _] rfl ?_
    refine qG (i := 12) rfl (by decide +kernel) (qE (v := .slice _ _ _) rfl) ?_
    refine dw_end rfl ?_
    refine qB rfl ?_
    refine qA (qC (v := .int .i64 _) rfl) ?_
    refine qA (qS rfl (by omega)) ?_
    refine qA (qE (v := .int .i64 _) rfl) ?_
    refine ⟨(k + 1, a2, es' ++ [⟨1, v1⟩], stepH hd ⟨1, v1⟩), ⟨rfl, rfl, trivial⟩, rfl, rfl, (zA E_k E4a), fun h3 E3 => ⟨hkl, by rw [List.flatMap_append]; exact ha2, K3.snoc hE, stepH_ok K4 hE, by rw [htk]; exact hP, by rw [List.length_append, List.length_singleton]; omega⟩, by first | omega | (dsimp only; omega), ?_⟩
    repeat (first | exact qW _ _ _ | refine wB (by decide) ?_ | refine qV rfl ?_ | refine wD rfl ?_)
   ·skip
    have hzl : a1.buttons.length ≤ z := geI hzb
    obtain ⟨q, hq⟩ : ∃ q, z = a1.buttons.length + q := ⟨z - a1.buttons.length, by omega⟩
    subst hq
    have hql : q < a1.on.length := by omega
    obtain ⟨g2, off2, hB, hd2⟩ := (RH.o.ext (zA (zA E_y E5) E_k)).at (by omega) hql
    obtain ⟨hE, hP⟩ := prs_o (hb := a1.buttons) (on := a1.on) H K5 hnew (List.getElem?_eq_getElem hql)
    generalize a1.on[q] = v1 at *
    refine xp_dw [] rfl rfl rfl ?_
    refine qG (i := 0) rfl (by decide +kernel) (qC (v := .slice _ _ _) rfl) ?_
    refine qG (i := 1) rfl (by decide +kernel) (qF rfl rfl rfl rfl 1 rfl) ?_
    refine wE (i := 2) rfl (by decide +kernel) ?_
    refine qJ 2 (v := .slice _ _ _) rfl rfl rfl rfl ?_
    refine qG (i := 3) rfl (by decide +kernel) (qC (v := .slice _ _ _) rfl) ?_
    refine qG (i := 4) rfl (by decide +kernel) (qC (v := .int .i64 _) rfl) ?_
    refine qG (i := 5) rfl (by decide +kernel) (wL rfl hA rfl rfl rfl (by omega) (by omega)) ?_
    refine wE (i := 6) rfl (by decide +kernel) ?_
    refine wM (v := .int .i64 _) rfl rfl ((hc) 0 _ rfl) ?_
    refine qG (i := 7) rfl (by decide +kernel) (qF rfl rfl rfl rfl 0 rfl) ?_
    refine wE (i := 8) rfl (by decide +kernel) ?_
    refine qJ 2 (v := .slice _ _ _) rfl rfl rfl rfl ?_
    refine qG (i := 9) rfl (by decide +kernel) (wQ rfl rfl) ?_
    refine qG (i := 10) rfl (by decide +kernel) (qS (r := (q : Int)) (pv_val (by congr 2; omega) (qN rfl)) (by omega)) ?_
    refine qG (i := 11) rfl (by decide +kernel) (wL (i := (q : Int)) rfl hB rfl rfl rfl (by omega) (by omega)) ?_
    refine wE (i := 12) rfl (by decide +kernel) ?_
    refine wM (v := .int .i64 _) rfl rfl ((hd2) 0 _ rfl) ?_
    refine qG (i := 13) rfl (by decide +kernel) (pv_build (zc := [_, _]) (vs := [(0, .int .i64 _), (1, .int .i64 _)]) (cs := [_, _]) rfl rfl rfl rfl rfl rfl) ?_
    refine wV (i := 14) rfl (by decide +kernel) (by decide +kernel) ?_
    refine qZ (zc := [_, _]) (vs := [(0, .agg #[.int .i64 _, .int .i64 _])]) (cs := [_, _]) rfl rfl rfl rfl rfl rfl rfl fun b90 hb90 => ?_
    refine wJ [_, _, _, _, _] rfl ?_
    refine wV (i := 15) rfl (by decide +kernel) (by decide +kernel) ?_
    refine wY 3 K2 rfl rfl rfl (fun V => rdP V (i := 4) rfl) rfl rfl rfl rfl rfl rfl rfl rfl rfl (by omega) rfl (by rw [wP (m := 2) (fun _ _ => rfl)]; simp only [List.length_cons, List.length_nil]; omega) fun a2 h5a E5a ha2 => ?_
    refine wJ [_, _, _, _, _] rfl ?_
    refine qG (i := 16) rfl (by decide +kernel) (qE (v := .slice _ _ _) rfl) ?_
    refine dw_end rfl ?_
    refine qB rfl ?_
    refine qA (qC (v := .int .i64 _) rfl) ?_
    refine qA (qS rfl (by omega)) ?_
    refine qA (qE (v := .int .i64 _) rfl) ?_
    refine ⟨(k + 1, a2, es' ++ [⟨3, v1⟩], stepH hd ⟨3, v1⟩), ⟨rfl, rfl, trivial⟩, rfl, rfl, (zA E_k E5a), fun h3 E3 => ⟨hkl, by rw [List.flatMap_append]; exact ha2, K3.snoc hE, stepH_ok K4 hE, by rw [htk]; exact hP, by rw [List.length_append, List.length_singleton]; omega⟩, by first | omega | (dsimp only; omega), ?_⟩
    repeat (first | exact qW _ _ _ | refine wB (by decide) ?_ | refine qV rfl ?_ | refine wD rfl ?_)
  ·skip
   have hke : k = o.length := by have := geI hk; omega
   subst hke
   rw [List.take_length] at K5
   have hall := prs_all (hb := a1.buttons) (on := a1.on) H K5 K4 (fun j hj => ord_all O j (by omega))
   subst hall
   obtain ⟨p8, A8, n8, c8⟩ := a'
   obtain rfl : n8 = es'.length := by have := AccR.len K2; rw [wP (m := 2) (fun _ _ => rfl)] at this; dsimp only at this; omega
   dsimp only at *
   refine goes_pubO 3 rfl ?_
   intro g8 G8 P8
   refine qR [_, _, _, _] rfl ?_
   have RE : Row g8 2 evC A8 es' := ⟨fun _ _ => rfl, AccR.rd K2 P8⟩
   refine wT ?_
   refine qD ?_
   refine qD ?_
   refine qB rfl ?_
   refine qA (qC (v := .slice _ _ _) rfl) ?_
   refine qA (wQ rfl rfl) ?_
   refine qA (qN (v := .bool _) rfl) ?_
   refine qT rfl (fun h0 => ?_) (fun h0 => ?_)
   ·skip
    refine qD ?_
    refine qB rfl ?_
    refine wI (caps := []) (vs := []) rfl rfl rfl (rod_sounding rfl g8) ?_
    rintro _ h26 E26 rfl
    refine qA (qE (v := .bool _) rfl) ?_
    refine qX ?_
    exact ⟨rfl, fun V => (zA (zA (zA (zA (zA (zA (zA (zA E1 E2) E3) E_y) E5) E_k) G8) E26) (wA V)), rfl⟩
   ·skip
    have hne : 0 < es'.length := by
     have h1 : ((es'.length : Int) == 0) = false := h0
     rcases Nat.eq_zero_or_pos es'.length with e | e
     ·rw [e] at h1; cases h1
     ·exact e
    have hc0 := hand_of M H
    have q1 : (checkHandM m a1 == 0) = true := by rw [hc0]; rfl
    have hpl : playM m es' = (0, (goM m es').out) := by
     rw [playM, if_neg (by rw [chk_of M]; decide), if_neg (by omega), K3.e]
    have hpl1 : (playM m es').1 = 0 := by rw [hpl]
    have hpl2 : (playM m es').2.length = es'.length := by rw [hpl]; exact K3.len
    have q2 : ((playM m es').1 == 0) = true := by rw [hpl1]; rfl
    have q3 : (((playM m es').2.length : Int) == (es'.length : Int)) = true := by rw [natBeq]; exact decide_eq_true hpl2
    have hsL : soundsL m a1 = listN (soundsM m a1 m.travel) 6 := if_pos hc0
    have hlt : es'.length - 1 < (playM m es').2.length := by omega
    have hlast : (playM m es').2[es'.length - 1] = soundsL m a1 := by
     have h1 := K3.last hne
     have h2 : (playM m es').2[es'.length - 1]? = some (listN (soundsM m a1 m.travel) 6) := by rw [hpl]; exact h1
     rw [List.getElem?_eq_getElem hlt] at h2
     rw [hsL]
     exact Option.some.inj h2
    have hsl6 := listN_len (soundsM m a1 m.travel) 6
    rw [← hsL] at hsl6
    refine qU ?_
    refine qD ?_
    refine qB rfl ?_
    refine wH 1 (vs := [.int .i64 _, .int .i64 _, .int .i64 _, .int .i64 _, .int .i64 _, .slice _ _ _, .slice _ _ _, .slice _ _ _, .slice _ _ _]) rfl rfl rfl rfl rfl ?_
    refine wH 2 (vs := [.slice _ _ _, .slice _ _ _]) rfl rfl rfl rfl rfl ?_
    refine wI (caps := []) (vs := [.agg _, .agg _]) rfl rfl rfl (Sounds_ok rfl m a1 AB AQ AL AW HA OA cB cQ cL cW cH cO g8 (RM.ext (zA (zA (zA (zA E3 E_y) E5) E_k) G8)) (RH.ext (zA (zA (zA E_y E5) E_k) G8)) (by omega) (by omega) (by omega)) ?_
    rintro _ h6 E6 ⟨_, rfl, A9, c9, rfl, R9⟩
    refine qA (qC (v := .tuple #[.slice _ _ _, .int .i64 _]) rfl) ?_
    refine qA (qN (v := .slice _ _ _) rfl) ?_
    refine qA (qN (v := .int .i64 _) rfl) ?_
    refine qA (qE (v := .slice _ _ _) rfl) ?_
    refine qA (qE (v := .int .i64 _) rfl) ?_
    refine qD ?_
    refine qB rfl ?_
    refine wH 1 (vs := [.int .i64 _, .int .i64 _, .int .i64 _, .int .i64 _, .int .i64 _, .slice _ _ _, .slice _ _ _, .slice _ _ _, .slice _ _ _]) rfl rfl rfl rfl rfl ?_
    refine qA (qC (v := .slice _ _ _) rfl) ?_
    refine wI (caps := []) (vs := [.agg _, .slice _ _ _]) rfl rfl rfl (Play_ok rfl m es' AB AQ AL AW A8 cB cQ cL cW c8 h6 (RM.ext (zA (zA (zA (zA (zA E3 E_y) E5) E_k) G8) E6)) (RE.ext E6) (by omega) (by omega)) ?_
    rintro _ h7 E7 ⟨_, rfl, SX⟩
    obtain ⟨c3, A3, d3, rfl, R3, EL3⟩ := SlX.els SX
    obtain ⟨ht, v, hcv, A5, c5, rfl, RL⟩ := (EL3.ext TL.mono (Ext.refl _)).at hlt
    obtain ⟨g3, o3, hA3, hc3⟩ := (R3.ext (Ext.refl _)).at (by omega) ht
    have hc3 : Cells h7 g3 (o3 + (es'.length - 1) * 1) [.slice A5 (playM m es').2[es'.length - 1].length c5] := by rw [← hcv]; exact hc3
    rw [hlast] at hc3 RL
    refine qA (qC (v := .tuple #[.slice _ _ _, .int .i64 _]) rfl) ?_
    refine qA (qN (v := .slice _ _ _) rfl) ?_
    refine qA (qN (v := .int .i64 _) rfl) ?_
    refine qA (qE (v := .slice _ _ _) rfl) ?_
    refine qA (qE (v := .int .i64 _) rfl) ?_
    refine qD ?_
    refine qB rfl ?_
    refine qA (qC (v := .int .i64 _) rfl) ?_
    refine qA (qN (v := .bool _) rfl) ?_
    refine qA (qC (v := .bool _) rfl) ?_
    refine qI rfl q1 ?_
    refine qA (qC (v := .int .i64 _) rfl) ?_
    refine qI rfl q1 ?_
    refine qA (qN (v := .bool _) rfl) ?_
    refine qA (wO rfl q1 (v := .bool _) rfl) ?_
    refine qA (qC (v := .bool _) rfl) ?_
    refine qI rfl q2 ?_
    refine qA (qC (v := .slice _ _ _) rfl) ?_
    refine qI rfl q2 ?_
    refine qA (wQ rfl rfl) ?_
    refine qI rfl q2 ?_
    refine qA (qC (v := .slice _ _ _) rfl) ?_
    refine qI rfl q2 ?_
    refine qA (wQ rfl rfl) ?_
    refine qI rfl q2 ?_
    refine qA (qN (v := .bool _) rfl) ?_
    refine qA (wO rfl q2 (v := .bool _) rfl) ?_
    refine qA (qC (v := .bool _) rfl) ?_
    refine qI rfl q3 ?_
    refine qA (qC (v := .slice _ _ _) rfl) ?_
    refine qI rfl q3 ?_
    refine qA (qC (v := .slice _ _ _) rfl) ?_
    refine qI rfl q3 ?_
    refine qA (wQ rfl rfl) ?_
    refine qI rfl q3 ?_
    refine qA (qS (r := ((es'.length - 1 : Nat) : Int)) (pv_val (by congr 2; omega) (qN rfl)) (by omega)) ?_
    refine qI rfl q3 ?_
    refine qA (wL rfl hA3 rfl rfl rfl (by omega) (by omega)) ?_
    refine qI rfl q3 ?_
    refine wM (v := .slice _ _ _) rfl rfl ((hc3) 0 _ rfl) ?_
    refine qI rfl q3 ?_
    refine qA (qC (v := .slice _ _ _) rfl) ?_
    refine qI rfl q3 ?_
    refine wI (caps := []) (vs := [.slice _ _ _, .slice _ _ _]) rfl rfl rfl (sameIntsS_ok (soundsL m a1) A5 A9 c5 c9 h7 (RL.ext (Ext.refl _)) (R9.ext E7) (by omega)) ?_
    rintro _ h10 E10 rfl
    refine qA (wO rfl q3 (v := .bool _) rfl) ?_
    refine qA (qC (v := .bool _) rfl) ?_
    refine qI rfl rfl ?_
    refine wI (caps := []) (vs := []) rfl rfl rfl (rod_sounding rfl h10) ?_
    rintro _ h26 E26 rfl
    refine qA (wO rfl rfl (v := .bool _) rfl) ?_
    refine qA (qE (v := .bool _) rfl) ?_
    refine qX ?_
    exact ⟨rfl, fun V => (zA (zA (zA (zA (zA (zA (zA (zA (zA (zA (zA E1 E2) E3) E_y) E5) E_k) G8) E6) E7) E10) E26) (wA V)), rfl⟩
end
end Go.Proofs.Ythphpbdmbmiaiaa
