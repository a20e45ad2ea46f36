/- An own logic over the model, its walks and its plain laws, joined of parts GP R19 GQ Rm Rn Ro R20 R21 U Uc Rp GS R23 R29 R30 R31 Rq R32 R25 R26 R33 R34 Rs R35 R36 R37 R38 GV GT GW GX R67 GU Rv R68 R69. Conditions: as each theorem states. -/
import Derived.Test.YthphpbdmbmiaiaaLa4
import Derived.Test.YthphpbdmbmiaiaaLa1
import Derived.Test.YthphpbdmbmiaiaaLa2
import Derived.Conc.LeavingOf
set_option linter.all false
namespace Go.HL
open Go
variable [Lvl]
section
variable {P : Program} {n : Nat} {ops : Array Oper}
theorem T1_fin {o : Oper} {S : Sl} {H : AH} {X : Sl → AH → Prop} (t : T1 P n ops o X S H) (f : Fin H) : T1 P n ops o (fun S' H' => Fin H' ∧ X S' H') S H := by
 unfold T1 at t ⊢
 split
 ·rename_i hg
  rw [hg] at t
  exact opW_fin t f
 ·rename_i j w hg
  rw [hg] at t
  obtain ⟨b, h1, h2, h3⟩ := t
  exact ⟨b, h1, fun e => opW_fin (h2 e) f, fun e => ⟨f, h3 e⟩⟩
theorem T1_guard {o : Oper} {j : Nat} {w : Bool} (hg : o.guard = some (j, w)) {S : Sl} {H : AH} {X : Sl → AH → Prop} :
  T1 P n ops o X S H ↔ (gval (ev n S (.tmp (((ops[j]?).bind (·.dst)).getD n))) = some w → T1 P n ops { o with guard := none } X S H) ∧ (gval (ev n S (.tmp (((ops[j]?).bind (·.dst)).getD n))) ≠ some w → X (put S o.dst undef) H) := by
 obtain ⟨d, op, ty, ps, af, gd⟩ := o
 simp only at hg
 subst hg
 constructor
 ·rintro ⟨b, h1, h2, h3⟩
  subst h1
  exact ⟨fun e => h2 e, fun e => h3 e⟩
 ·rintro ⟨h2, h3⟩
  exact ⟨_, rfl, fun e => h2 e, fun e => h3 e⟩
theorem el_left {d : Nat} : ∀ {a b : List Nat}, el d (a ++ b) = false → el d a = false
 | [], _, _ => rfl
 | x :: a, b, h => by
  rw [List.cons_append, zJ, Bool.or_eq_false_iff] at h
  rw [zJ, h.1, el_left h.2]
  rfl
theorem apart_bare {oi oj : Oper} (h : apart (ops := ops) oi oj = true) : apart (ops := ops) oi { oj with guard := none } = true := by
 unfold apart at h ⊢
 rw [Bool.and_eq_true] at h ⊢
 refine ⟨?_, h.2⟩
 have h1 := h.1
 cases hd : oi.dst with
 | none => rfl
 | some d =>
  rw [hd] at h1
  simp only [Bool.and_eq_true, Bool.not_eq_true'] at h1 ⊢
  refine ⟨?_, h1.2⟩
  have : reads ops { oj with guard := none } = opTmps oj.op ++ [] := rfl
  rw [this, List.append_nil]
  exact el_left h1.1
theorem guard_same {oi oj : Oper} {j : Nat} {w : Bool} (hg : oj.guard = some (j, w)) (hap : apart (ops := ops) oi oj = true) (S : Sl) (v : Value) :
  ev n (put S oi.dst v) (.tmp (((ops[j]?).bind (·.dst)).getD n)) = ev n S (.tmp (((ops[j]?).bind (·.dst)).getD n)) := by
 cases hd : (ops[j]?).bind (·.dst) with
 | none => simp [ev]
 | some d =>
  have := put_agree hap S v d (List.mem_append_right _ (by simp [guardT, hg, hd]))
  simp only [Option.getD_some, ev]
  rw [this]
theorem swap_freeG {oi oj : Oper} {S : Sl} {H : AH} {Y : Sl → AH → Prop} (hf : freeOp oj.op = true) (hap : apart (ops := ops) oi oj = true) (fH : Fin H)
  (t : T1 P n ops oi (fun S' H' => T1 P n ops oj Y S' H') S H) : T1 P n ops oj (fun S' H' => Ext H H' ∧ T1 P n ops oi Y S' H') S H := by
 cases hg : oj.guard with
 | none => exact swap_free hf hg hap fH t
 | some jw =>
  obtain ⟨j, w⟩ := jw
  rw [T1_guard hg]
  constructor
  ·intro hv
   refine swap_free (oj := { oj with guard := none }) hf rfl (apart_bare hap) fH ?_
   refine T1_mono' (fun v H' y => ?_) t
   exact ((T1_guard hg).1 y).1 (by rw [guard_same hg hap]; exact hv)
  ·intro hv
   refine ⟨Ext.refl H, ?_⟩
   have t2 : T1 P n ops oi (fun S' H' => Y (put S' oj.dst undef) H') S H := T1_mono' (fun v H' y => ((T1_guard hg).1 y).2 (by rw [guard_same hg hap]; exact hv)) t
   refine T1_agree (X := fun S' H' => Y (put S' oj.dst undef) H') (fun x hx => (put_agree (apart_symm hap) S undef x hx).symm) ?_ t2
   intro v H' y
   rw [put_swap hap S v undef] at y
   exact y
theorem take_anyG {X : Sl → AH → Prop} {i : Nat} {oi : Oper} (hoi : ops[i]? = some oi) :
  ∀ (m : Nat) (dn ac : List Nat) (G : Gh) (S : Sl) (H : AH), Fin H → (left ops dn).length = m + 1 → ready ops dn i = true → (∀ k, el k (blk ops i) = true → el k dn = false) → GT ops ac G H →
   (∀ g ∈ G, ∀ H1 H2, Ext H1 H2 → g.2 H1 → g.2 H2) →
   (∀ j oj, ops[j]? = some oj → j ≠ i → el j dn = false → el j (blk ops i) = false → freeOp oj.op = true ∧ apart (ops := ops) oi oj = true) →
   T1 P n ops oi (fun S' H' => GT ops (i :: ac) G H' ∧ WG P n ops m (i :: dn) (i :: ac) G X S' H') S H → WG P n ops (m + 1) dn ac G X S H := by
 intro m
 induction m with
 | zero =>
  intro dn ac G S H fH hl hr hal hgt hmo _ w j oj hoj hrj
  obtain ⟨hi, hdi⟩ := ready_lt hr
  obtain ⟨hj, hdj⟩ := ready_lt hrj
  by_cases hji : j = i
  ·subst hji
   rw [hoi] at hoj
   obtain rfl := Option.some.inj hoj
   exact w
  ·exact (left_two hi hj hdi hdj hji hl).elim
 | succ m ih =>
  intro dn ac G S H fH hl hr hal hgt hmo hfr w j oj hoj hrj
  obtain ⟨hi, hdi⟩ := ready_lt hr
  obtain ⟨hj, hdj⟩ := ready_lt hrj
  by_cases hji : j = i
  ·subst hji
   rw [hoi] at hoj
   obtain rfl := Option.some.inj hoj
   exact w
  ·have hnb := not_blk hrj hdi hal
   obtain ⟨hf, hap⟩ := hfr j oj hoj hji hdj hnb
   have w1 : T1 P n ops oi (fun S' H' => T1 P n ops oj (fun S2 H2 => GT ops (j :: i :: ac) G H2 ∧ WG P n ops m (j :: i :: dn) (j :: i :: ac) G X S2 H2) S' H') S H :=
    T1_mono (fun S' H' y => y.2 j oj hoj (ready_more hrj hji)) w
   have w2 := swap_freeG hf hap fH w1
   have w3 : T1 P n ops oj (fun S' H' => Fin H' ∧ Ext H H' ∧ T1 P n ops oi (fun S2 H2 => GT ops (j :: i :: ac) G H2 ∧ WG P n ops m (j :: i :: dn) (j :: i :: ac) G X S2 H2) S' H') S H := by
    exact T1_mono (fun S' H' y => ⟨y.1, y.2.1, y.2.2⟩) (T1_fin w2 fH)
   refine T1_mono ?_ w3
   rintro S' H' ⟨f', hE, y⟩
   have hpd : ∀ k, el k (j :: i :: dn) = el k (i :: j :: dn) := fun k => by simp only [zJ]; cases (k == j) <;> cases (k == i) <;> rfl
   have hpa : ∀ k, el k (j :: i :: ac) = true → el k (i :: j :: ac) = true := fun k => by
    simp only [zJ, Bool.or_eq_true]
    rintro (h | h | h)
    ·exact .inr (.inl h)
    ·exact .inl h
    ·exact .inr (.inr h)
   have hal' : ∀ k, el k (blk ops i) = true → el k (j :: dn) = false := fun k hk => by
    simp only [zJ, hal k hk, Bool.or_false]
    cases hkj : (k == j) with
    | false => rfl
    | true => rw [beq_iff_eq] at hkj; subst hkj; rw [hk] at hnb; cases hnb
   have hgt' : GT ops (j :: ac) G H' := fun g hg2 a => hmo g hg2 H H' hE (hgt g hg2 (alive_less (fun k hk => by simp [zJ, hk]) a))
   refine ⟨hgt', ?_⟩
   refine ih (j :: dn) (j :: ac) G S' H' f' (left_cons hj hdj hl) (ready_more hr (fun e => hji e.symm)) hal' hgt' hmo ?_ (T1_mono (fun S2 H2 z => ⟨GT_more hpa z.1, WG_perm m _ _ _ _ hpd hpa _ _ z.2⟩) y)
   intro k ok hok hki hdk hbk
   exact hfr k ok hok hki (by simp only [zJ, Bool.or_eq_false_iff] at hdk; exact hdk.2) hbk
def okH (ops : Array Oper) (dn : List Nat) (i : Nat) : Bool :=
 ready ops dn i && (blk ops i).all (fun k => !el k dn) &&
 match ops[i]? with
 | some oi => (List.range ops.size).all fun j => j == i || el j dn || el j (blk ops i) || (match ops[j]? with | some oj => freeOp oj.op && apart (ops := ops) oi oj | none => true)
 | none => false
end
section
variable {P : Program} {n : Nat} {ops : Array Oper} {i : Nat} {d : Option Tmp} {op : Op} {ty : TypeId} {ps : String} {af : Array Edge} {S : Sl} {L : Pv} {h : AH} {mask : List Bool} {X : Sl → AH → Prop} {dn ac : List Nat}
theorem dw_effH {j : Nat} {want t : Bool} (hoi : ops[i]? = some ⟨d, op, ty, ps, af, some (j, want)⟩) (hok : okH ops dn i = true)
  (ht : ev n S (.tmp (((ops[j]?).bind (·.dst)).getD n)) = .bool t) (hb : t = want) (w : wpL P n ops [⟨d, op, ty, ps, af, none⟩] (fun S' L' h' => Ext (wl h (rmM mask L)) (wl h' (rmM mask L')) ∧ Dw P n ops mask X (i :: dn) (i :: ac) S' L' h') (fun _ _ _ _ => False) S L h) : Dw P n ops mask X dn ac S L h := by
 intro V G hG
 unfold okH at hok
 rw [hoi] at hok
 simp only [Bool.and_eq_true] at hok
 obtain ⟨⟨hr, hbl⟩, hap⟩ := hok
 obtain ⟨m, hm⟩ := left_pos hr
 obtain ⟨hi, hdi⟩ := ready_lt hr
 rw [hm]
 refine take_anyG hoi m dn ac G S (wl h L) (fin_wl V) hm hr ?_ ?_ (fun g hg => (hG g hg).2.1) ?_ ?_
 ·intro x hx
  have := List.all_eq_true.1 hbl x ((el_mem _ _).1 hx)
  simpa using this
 ·intro g hg _
  exact (hG g hg).2.1 _ _ (ext_rm V) (hG g hg).2.2
 ·intro j oj hoj hji hdj hbj
  have hjl : j < ops.size := (Array.getElem?_eq_some_iff.1 hoj).1
  have := List.all_eq_true.1 hap j (by simpa using hjl)
  rw [hoj, hdj, hbj] at this
  simp only [Bool.or_false, Bool.or_eq_true, beq_iff_eq, Bool.and_eq_true] at this
  exact this.resolve_left hji
 ·refine ⟨some t, by rw [ht]; rfl, fun _ => ?_, fun hn => absurd (congrArg some hb) hn⟩
  show opW P n ⟨d, op, ty, ps, af, none⟩ S (wl h L) _ noE
  refine opW_mono ?_ ?_ (w V)
  ·rintro v H ⟨L', h', rfl, V', hE, hD⟩
   have hG' : ∀ g ∈ G, ((∀ H, g.2 H) ∨ (isLd ops g.1 = true ∧ el g.1 (i :: dn) = true)) ∧ (∀ H1 H2, Ext H1 H2 → g.2 H1 → g.2 H2) ∧ g.2 (wl h' (rmM mask L')) := by
    intro g hg
    obtain ⟨h1, h2, h3⟩ := hG g hg
    exact ⟨h1.imp id (fun e => ⟨e.1, by simp [zJ, e.2]⟩), h2, h2 _ _ hE h3⟩
   refine ⟨fun g hg _ => (hG' g hg).2.1 _ _ (ext_rm V') (hG' g hg).2.2, ?_⟩
   have := hD V' G hG'
   rw [left_cons hi hdi hm] at this
   exact this
  ·rintro v H ⟨L', h', rfl, V', y⟩; exact y
theorem dw_lastH {j : Nat} {want t : Bool} (hoi : ops[i]? = some ⟨d, op, ty, ps, af, some (j, want)⟩) (hok : okH ops dn i = true) (hl : okL ops dn i = true)
  (ht : ev n S (.tmp (((ops[j]?).bind (·.dst)).getD n)) = .bool t) (hb : t = want) (w : wpL P n ops [⟨d, op, ty, ps, af, none⟩] (fun S' L' h' => Dw P n ops mask X (i :: dn) (i :: ac) S' L' h') (fun _ _ _ _ => False) S L h) : Dw P n ops mask X dn ac S L h := by
 intro V G hG
 unfold okH at hok
 rw [hoi] at hok
 simp only [Bool.and_eq_true] at hok
 obtain ⟨⟨hr, hbl⟩, hap⟩ := hok
 obtain ⟨m, hm⟩ := left_pos hr
 obtain ⟨hi, hdi⟩ := ready_lt hr
 rw [hm]
 refine take_anyG hoi m dn ac G S (wl h L) (fin_wl V) hm hr ?_ ?_ (fun g hg => (hG g hg).2.1) ?_ ?_
 ·intro x hx
  have := List.all_eq_true.1 hbl x ((el_mem _ _).1 hx)
  simpa using this
 ·intro g hg _
  exact (hG g hg).2.1 _ _ (ext_rm V) (hG g hg).2.2
 ·intro j oj hoj hji hdj hbj
  have hjl : j < ops.size := (Array.getElem?_eq_some_iff.1 hoj).1
  have := List.all_eq_true.1 hap j (by simpa using hjl)
  rw [hoj, hdj, hbj] at this
  simp only [Bool.or_false, Bool.or_eq_true, beq_iff_eq, Bool.and_eq_true] at this
  exact this.resolve_left hji
 ·refine ⟨some t, by rw [ht]; rfl, fun _ => ?_, fun hn => absurd (congrArg some hb) hn⟩
  show opW P n ⟨d, op, ty, ps, af, none⟩ S (wl h L) _ noE
  refine opW_mono ?_ ?_ (w V)
  ·rintro v H ⟨L', h', rfl, V', hD⟩
   -- the facts that are still asked hold everywhere
   have hdead : ∀ g ∈ G, (∀ H, g.2 H) ∨ ¬ alive ops (i :: ac) g.1 := by
    intro g hg
    rcases (hG g hg).1 with h1 | ⟨h1, h2⟩
    ·exact .inl h1
    ·right
     intro a
     have := List.all_eq_true.1 hl g.1 ((el_mem _ _).1 h2)
     rw [h1] at this
     simp only [Bool.not_true, Bool.false_or] at this
     have := a i this
     simp [zJ] at this
   refine ⟨fun g hg a => ((hdead g hg).resolve_right (fun n => n a)) _, ?_⟩
   have hall : ∀ (m : Nat) (dn' ac' : List Nat) (S' : Sl) (H' : AH), (∀ k, el k (i :: ac) = true → el k ac' = true) → WG P n ops m dn' ac' [] X S' H' → WG P n ops m dn' ac' G X S' H' := by
    intro m
    induction m with
    | zero => intro dn' ac' S' H' _ w; exact w
    | succ m ih =>
     intro dn' ac' S' H' hsub w j oj hoj hrj
     refine T1_mono (fun S2 H2 y => ⟨fun g hg a => ?_, ih _ _ _ _ (fun k hk => by simp [zJ, hsub k hk]) y.2⟩) (w j oj hoj hrj)
     exact ((hdead g hg).resolve_right (fun n => n (alive_less (fun k hk => by simp [zJ, hsub k hk]) a))) _
   have := hD V' [] (fun g hg => by cases hg)
   rw [left_cons hi hdi hm] at this
   exact hall m _ _ _ _ (fun _ h => h) this
  ·rintro v H ⟨L', h', rfl, V', y⟩; exact y
end
end Go.HL
namespace Go.Proofs.Ythphpbdmbmiaiaa
open Go Go.HL Go.Proofs Go.Wx Go.Rd
section
variable [Lvl]
set_option maxRecDepth 100000
theorem m0_hand : checkHandM mach0 ⟨[0, 1], []⟩ = 0 := by decide +kernel
theorem m0_lifts : liftsL mach0 ⟨[0, 1], []⟩ = [4, 3, 1, 0] := by decide +kernel
theorem m0_force : forceV mach0 ⟨[0, 1], []⟩ = 9 := by decide +kernel
theorem m0_hand2 : checkHandM mach0 ⟨[], [0]⟩ = 0 := by decide +kernel
theorem m0_chart : chartL mach0 [0] = [[0, 1, 2], [1]] := by decide +kernel
theorem m0_suspE : suspE mach0 (heard0 [0]) = 0 := by decide +kernel
theorem m0_suspL : suspL mach0 (heard0 [0]) = [1, 9] := by decide +kernel
theorem m0_testE : testE mach0 (heard0 [0]) = 0 := by decide +kernel
theorem m0_testN : testN mach0 (heard0 [0]) = 1 := by decide +kernel
theorem m0_testB : (testA mach0 (heard0 [0])).buttons = [1] := by decide +kernel
theorem m0_testO : (testA mach0 (heard0 [0])).on = [] := by decide +kernel
theorem m0_test : testA mach0 (heard0 [0]) = ⟨[1], []⟩ := by
 have h1 := m0_testB
 have h2 := m0_testO
 cases h : testA mach0 (heard0 [0]) with
 | mk b o => rw [h] at h1 h2; simp only at h1 h2; rw [h1, h2]
theorem hlen0 (l : List Int) (h : l.length < 2 ^ 40) : HLen (heard0 l) := ⟨by show 1 < 2 ^ 40; decide, fun x hx => by simp [heard0] at hx; subst hx; exact ⟨by show 1 < 2 ^ 40; decide, by show 0 < 2 ^ 40; decide, h⟩⟩
theorem rod_sounding (hph : Lvl.ph = true) (h : AH) : FnT Try.prog 28 #[] h (fun v _ => v = .bool true) := by
 have w0 : mach0.weights.length < 2 ^ 40 := by decide
 refine wM Try.func28 rfl Try.ntmps28 rfl ?_
 refine qD ?_
 refine qB rfl ?_
 refine qA (qE (v := .bool _) rfl) ?_
 refine qD ?_
 refine qB rfl ?_
 refine wK (caps := []) (vs := []) rfl rfl rfl (machine_ok h) ?_
 rintro _ h1 E1 ⟨AB1, AQ1, AL1, AW1, cB1, cQ1, cL1, cW1, rfl, M1⟩
 refine wD (zc := [_]) (vs := [(0, .int .i64 _), (1, .int .i64 _)]) (cs := [_, _]) rfl rfl rfl rfl rfl rfl rfl fun b14 hb14 => ?_
 refine qK [_] rfl ?_
 refine wp_pub 0 rfl rfl ?_
 intro h2 E2 p2
 refine qK [_] rfl ?_
 refine wK (caps := []) (vs := [.slice _ _ _]) rfl rfl rfl (pressed_ok [0, 1] _ _ h2) ?_
 rintro _ h3 E3 rfl
 have R2 : Row h2 1 intC (some ⟨b14, 0, none⟩) [0, 1] := row_of_block (enc := intC) (m := 1) (l := [0, 1]) (fun _ _ => rfl) p2
 have H1 := Lifts_ok hph mach0 ⟨[0, 1], []⟩ AB1 AQ1 AL1 AW1 (some ⟨b14, 0, none⟩) none cB1 cQ1 cL1 cW1 2 0 h3 (M1.ext (zM E2 E3)) ⟨R2.ext E3, row_nil _ _⟩ w0 (by decide) (by decide)
 rw [m0_hand, m0_lifts] at H1
 refine wK (caps := []) (vs := [.agg #[.int .i64 _, .int .i64 _, .int .i64 _, .int .i64 _, .int .i64 _, .slice _ _ _, .slice _ _ _, .slice _ _ _, .slice _ _ _], .agg #[.slice _ _ _, .slice _ _ _]]) rfl rfl rfl (H1) ?_
 rintro _ h4 E4 ⟨_, rfl, A4, c4, rfl, S4⟩
 refine qA (qC (v := .tuple #[.slice _ _ _, .int .i64 _]) rfl) ?_
 refine qA (qL (v := .slice _ _ _) rfl) ?_
 refine qA (qL (v := .int .i64 _) rfl) ?_
 refine qA (qE (v := .slice _ _ _) rfl) ?_
 refine qA (qE (v := .int .i64 _) rfl) ?_
 refine qD ?_
 refine qB rfl ?_
 refine wK (caps := []) (vs := []) rfl rfl rfl (machine_ok h4) ?_
 rintro _ h5 E5 ⟨AB2, AQ2, AL2, AW2, cB2, cQ2, cL2, cW2, rfl, M2⟩
 refine wD (zc := [_]) (vs := [(0, .int .i64 _), (1, .int .i64 _)]) (cs := [_, _]) rfl rfl rfl rfl rfl rfl rfl fun b21 hb21 => ?_
 refine qK [_, _] rfl ?_
 refine wp_pub 1 rfl rfl ?_
 intro h6 E6 p6
 refine qK [_, _] rfl ?_
 refine wK (caps := []) (vs := [.slice _ _ _]) rfl rfl rfl (pressed_ok [0, 1] _ _ h6) ?_
 rintro _ h7 E7 rfl
 have R6 : Row h6 1 intC (some ⟨b21, 0, none⟩) [0, 1] := row_of_block (enc := intC) (m := 1) (l := [0, 1]) (fun _ _ => rfl) p6
 have H2 := Force_ok hph mach0 ⟨[0, 1], []⟩ AB2 AQ2 AL2 AW2 (some ⟨b21, 0, none⟩) none cB2 cQ2 cL2 cW2 2 0 h7 (M2.ext (zM E6 E7)) ⟨R6.ext E7, row_nil _ _⟩ w0 (by decide) (by decide)
 rw [m0_hand, m0_force] at H2
 refine wK (caps := []) (vs := [.agg #[.int .i64 _, .int .i64 _, .int .i64 _, .int .i64 _, .int .i64 _, .slice _ _ _, .slice _ _ _, .slice _ _ _, .slice _ _ _], .agg #[.slice _ _ _, .slice _ _ _]]) rfl rfl rfl (H2) ?_
 rintro _ h8 E8 rfl
 refine qA (qC (v := .tuple #[.int .i64 _, .int .i64 _]) rfl) ?_
 refine qA (qL (v := .int .i64 _) rfl) ?_
 refine qA (qL (v := .int .i64 _) rfl) ?_
 refine qA (qE (v := .int .i64 _) rfl) ?_
 refine qA (qE (v := .int .i64 _) rfl) ?_
 refine qD ?_
 refine qB rfl ?_
 refine wK (caps := []) (vs := []) rfl rfl rfl (machine_ok h8) ?_
 rintro _ h9 E9 ⟨AB3, AQ3, AL3, AW3, cB3, cQ3, cL3, cW3, rfl, M3⟩
 refine wD (zc := [_]) (vs := [(0, .int .i64 _)]) (cs := [_]) rfl rfl rfl rfl rfl rfl rfl fun b28 hb28 => ?_
 refine qK [_, _, _] rfl ?_
 refine wp_pub 2 rfl rfl ?_
 intro h10 E10 p10
 refine qK [_, _, _] rfl ?_
 have R10 : Row h10 1 intC (some ⟨b28, 0, none⟩) [0] := row_of_block (enc := intC) (m := 1) (l := [0]) (fun _ _ => rfl) p10
 have H3 := Chart_ok hph mach0 [0] AB3 AQ3 AL3 AW3 (some ⟨b28, 0, none⟩) cB3 cQ3 cL3 cW3 1 h10 (M3.ext E10) R10 w0 (by decide)
 rw [m0_hand2, m0_chart] at H3
 refine wK (caps := []) (vs := [.agg #[.int .i64 _, .int .i64 _, .int .i64 _, .int .i64 _, .int .i64 _, .slice _ _ _, .slice _ _ _, .slice _ _ _, .slice _ _ _], .slice _ _ _]) rfl rfl rfl (H3) ?_
 rintro _ h11 E11 ⟨_, rfl, S11⟩
 obtain ⟨cs11, A11, c11, rfl, R11, L11⟩ := SlX.els S11
 refine qA (qC (v := .tuple #[.slice _ _ _, .int .i64 _]) rfl) ?_
 refine qA (qL (v := .slice _ _ _) rfl) ?_
 refine qA (qL (v := .int .i64 _) rfl) ?_
 refine qA (qE (v := .slice _ _ _) rfl) ?_
 refine qA (qE (v := .int .i64 _) rfl) ?_
 refine qD ?_
 refine qB rfl ?_
 refine wK (caps := []) (vs := []) rfl rfl rfl (machine_ok h11) ?_
 rintro _ h12 E12 ⟨AB4, AQ4, AL4, AW4, cB4, cQ4, cL4, cW4, rfl, M4⟩
 refine wD (zc := [_]) (vs := [(0, .int .i64 _)]) (cs := [_]) rfl rfl rfl rfl rfl rfl rfl fun b34 hb34 => ?_
 refine qK [_, _, _, _] rfl ?_
 refine wp_pub 3 rfl rfl ?_
 intro h13 E13 p13
 refine qK [_, _, _, _] rfl ?_
 have R13 : Row h13 1 intC (some ⟨b34, 0, none⟩) [0] := row_of_block (enc := intC) (m := 1) (l := [0]) (fun _ _ => rfl) p13
 refine wK (caps := []) (vs := [.slice _ _ _]) rfl rfl rfl (sounded_ok [0] _ _ h13 R13) ?_
 rintro _ h14 E14 ⟨UA4, cU4, cs4, rfl, RU4, EU4⟩
 have H4 := Suspects_ok hph mach0 (heard0 [0]) (hlen0 _ (by decide)) AB4 AQ4 AL4 AW4 UA4 cB4 cQ4 cL4 cW4 cU4 cs4 h14 (M4.ext (zM E13 E14)) w0 RU4 EU4
 rw [m0_suspE, m0_suspL] at H4
 refine wK (caps := []) (vs := [.agg #[.int .i64 _, .int .i64 _, .int .i64 _, .int .i64 _, .int .i64 _, .slice _ _ _, .slice _ _ _, .slice _ _ _, .slice _ _ _], .slice _ _ _]) rfl rfl rfl (H4) ?_
 rintro _ h15 E15 ⟨_, rfl, A15, c15, rfl, S15⟩
 refine qA (qC (v := .tuple #[.slice _ _ _, .int .i64 _]) rfl) ?_
 refine qA (qL (v := .slice _ _ _) rfl) ?_
 refine qA (qL (v := .int .i64 _) rfl) ?_
 refine qA (qE (v := .slice _ _ _) rfl) ?_
 refine qA (qE (v := .int .i64 _) rfl) ?_
 refine qD ?_
 refine qB rfl ?_
 refine wK (caps := []) (vs := []) rfl rfl rfl (machine_ok h15) ?_
 rintro _ h16 E16 ⟨AB5, AQ5, AL5, AW5, cB5, cQ5, cL5, cW5, rfl, M5⟩
 refine wD (zc := [_]) (vs := [(0, .int .i64 _)]) (cs := [_]) rfl rfl rfl rfl rfl rfl rfl fun b41 hb41 => ?_
 refine qK [_, _, _, _, _] rfl ?_
 refine wp_pub 4 rfl rfl ?_
 intro h17 E17 p17
 refine qK [_, _, _, _, _] rfl ?_
 have R17 : Row h17 1 intC (some ⟨b41, 0, none⟩) [0] := row_of_block (enc := intC) (m := 1) (l := [0]) (fun _ _ => rfl) p17
 refine wK (caps := []) (vs := [.slice _ _ _]) rfl rfl rfl (sounded_ok [0] _ _ h17 R17) ?_
 rintro _ h18 E18 ⟨UA5, cU5, cs5, rfl, RU5, EU5⟩
 have H5 := Test_ok hph mach0 (heard0 [0]) (hlen0 _ (by decide)) AB5 AQ5 AL5 AW5 UA5 cB5 cQ5 cL5 cW5 cU5 cs5 h18 (M5.ext (zM E17 E18)) w0 RU5 EU5
 rw [m0_testE, m0_testN, m0_test] at H5
 refine wK (caps := []) (vs := [.agg #[.int .i64 _, .int .i64 _, .int .i64 _, .int .i64 _, .int .i64 _, .slice _ _ _, .slice _ _ _, .slice _ _ _, .slice _ _ _], .slice _ _ _]) rfl rfl rfl (H5) ?_
 rintro _ h19 E19 ⟨_, rfl, V19⟩
 obtain ⟨HA, OA, cH, cO, rfl, RH⟩ := HandV.open V19
 refine qA (qC (v := .tuple #[.agg #[.slice _ _ _, .slice _ _ _], .int .i64 _, .int .i64 _]) rfl) ?_
 refine qA (qL (v := .agg #[.slice _ _ _, .slice _ _ _]) rfl) ?_
 refine qA (qL (v := .int .i64 _) rfl) ?_
 refine qA (qL (v := .int .i64 _) rfl) ?_
 refine zA (cs := [_, _]) rfl rfl fun b9 hb9 => ?_
 refine qK [_, _, _, _, _, _] rfl ?_
 refine qW 5 (v := .agg #[.slice _ _ _, .slice _ _ _]) (vs := [_, _]) (c' := [_, _]) rfl rfl rfl rfl rfl rfl rfl rfl rfl ?_
 refine qK [_, _, _, _, _, _] rfl ?_
 refine qA (qE (v := .int .i64 _) rfl) ?_
 refine qA (qE (v := .int .i64 _) rfl) ?_
 refine qD ?_
 refine xp_dw [] rfl rfl rfl ?_
 refine qI (i := 0) rfl (by decide +kernel) (qC (v := .int .i64 _) rfl) ?_
 refine qI (i := 1) rfl (by decide +kernel) (qL (v := .bool _) rfl) ?_
 refine qI (i := 2) rfl (by decide +kernel) (qC (v := .bool _) rfl) ?_
 refine dw_pureG (i := 3) rfl (by decide +kernel) rfl rfl (qC (v := .int .i64 _) rfl) ?_
 refine dw_pureG (i := 4) rfl (by decide +kernel) rfl rfl (qL (v := .bool _) rfl) ?_
 refine qI (i := 5) rfl (by decide +kernel) (wI rfl rfl (v := .bool _) rfl) ?_
 refine qI (i := 6) rfl (by decide +kernel) (qC (v := .bool _) rfl) ?_
 refine dw_pureG (i := 7) rfl (by decide +kernel) rfl rfl (qC (v := .int .i64 _) rfl) ?_
 refine dw_pureG (i := 8) rfl (by decide +kernel) rfl rfl (qL (v := .bool _) rfl) ?_
 refine qI (i := 9) rfl (by decide +kernel) (wI rfl rfl (v := .bool _) rfl) ?_
 refine qI (i := 10) rfl (by decide +kernel) (qC (v := .bool _) rfl) ?_
 refine dw_pureG (i := 11) rfl (by decide +kernel) rfl rfl (qC (v := .int .i64 _) rfl) ?_
 refine dw_pureG (i := 12) rfl (by decide +kernel) rfl rfl (qL (v := .bool _) rfl) ?_
 refine qI (i := 13) rfl (by decide +kernel) (wI rfl rfl (v := .bool _) rfl) ?_
 refine qI (i := 14) rfl (by decide +kernel) (qC (v := .bool _) rfl) ?_
 refine dw_pureG (i := 15) rfl (by decide +kernel) rfl rfl (qC (v := .int .i64 _) rfl) ?_
 refine dw_pureG (i := 16) rfl (by decide +kernel) rfl rfl (qL (v := .bool _) rfl) ?_
 refine qI (i := 17) rfl (by decide +kernel) (wI rfl rfl (v := .bool _) rfl) ?_
 refine qI (i := 18) rfl (by decide +kernel) (qC (v := .bool _) rfl) ?_
 refine dw_pureG (i := 19) rfl (by decide +kernel) rfl rfl (qC (v := .int .i64 _) rfl) ?_
 refine dw_pureG (i := 20) rfl (by decide +kernel) rfl rfl (qL (v := .bool _) rfl) ?_
 refine qI (i := 21) rfl (by decide +kernel) (wI rfl rfl (v := .bool _) rfl) ?_
 refine qI (i := 22) rfl (by decide +kernel) (qC (v := .bool _) rfl) ?_
 refine dw_pureG (i := 23) rfl (by decide +kernel) rfl rfl (qC (v := .int .i64 _) rfl) ?_
 refine dw_pureG (i := 24) rfl (by decide +kernel) rfl rfl (qL (v := .bool _) rfl) ?_
 refine qI (i := 25) rfl (by decide +kernel) (wI rfl rfl (v := .bool _) rfl) ?_
 refine qI (i := 26) rfl (by decide +kernel) (qC (v := .bool _) rfl) ?_
 refine dw_pureG (i := 27) rfl (by decide +kernel) rfl rfl (qC (v := .slice _ _ _) rfl) ?_
 refine dw_lastH (i := 28) rfl (by decide +kernel) (by decide +kernel) rfl rfl ?_
 refine wD (zc := [_]) (vs := [(0, .int .i64 _), (1, .int .i64 _), (2, .int .i64 _), (3, .int .i64 _)]) (cs := [_, _, _, _]) rfl rfl rfl rfl rfl rfl rfl fun b75 hb75 => ?_
 refine wS [_, _, _, _, _, _, _] rfl ?_
 refine dw_pub 6 rfl ?_
 intro g1 F1 q1
 refine wS [_, _, _, _, _, _, _] rfl ?_
 refine dw_lastH (i := 29) rfl (by decide +kernel) (by decide +kernel) rfl rfl ?_
 refine wK (caps := []) (vs := [.slice _ _ _, .slice _ _ _]) rfl rfl rfl (sameInts_ok [4, 3, 1, 0] [4, 3, 1, 0] _ _ _ _ g1 (S4.ext (zM (zM (zM (zM (zM (zM (zM (zM (zM (zM (zM (zM (zM (zM (zM E5 E6) E7) E8) E9) E10) E11) E12) E13) E14) E15) E16) E17) E18) E19) F1)) (row_of_block (enc := intC) (m := 1) (l := [4, 3, 1, 0]) (fun _ _ => rfl) q1) (by decide)) ?_
 rintro _ g2 F2 rfl
 refine qI (i := 30) rfl (by decide +kernel) (wI rfl rfl (v := .bool _) rfl) ?_
 refine qI (i := 31) rfl (by decide +kernel) (qC (v := .bool _) rfl) ?_
 refine dw_pureG (i := 32) rfl (by decide +kernel) rfl rfl (qC (v := .slice _ _ _) rfl) ?_
 refine dw_lastH (i := 33) rfl (by decide +kernel) (by decide +kernel) rfl rfl ?_
 refine wD (zc := [_]) (vs := [(0, .int .i64 _), (1, .int .i64 _), (2, .int .i64 _)]) (cs := [_, _, _]) rfl rfl rfl rfl rfl rfl rfl fun b80 hb80 => ?_
 refine wS [_, _, _, _, _, _, _, _] rfl ?_
 refine dw_lastH (i := 34) rfl (by decide +kernel) (by decide +kernel) rfl rfl ?_
 refine wD (zc := [_]) (vs := [(0, .int .i64 _)]) (cs := [_]) rfl rfl rfl rfl rfl rfl rfl fun b81 hb81 => ?_
 refine wS [_, _, _, _, _, _, _, _, _] rfl ?_
 refine dw_lastH (i := 35) rfl (by decide +kernel) (by decide +kernel) rfl rfl ?_
 refine wD (zc := [_]) (vs := [(0, .slice _ _ _), (1, .slice _ _ _)]) (cs := [_, _]) rfl rfl rfl rfl rfl rfl rfl fun b82 hb82 => ?_
 refine wS [_, _, _, _, _, _, _, _, _, _] rfl ?_
 refine dw_pub 7 rfl ?_
 intro g3 F3 q3
 refine wS [_, _, _, _, _, _, _, _, _, _] rfl ?_
 refine dw_pub 8 rfl ?_
 intro g4 F4 q4
 refine wS [_, _, _, _, _, _, _, _, _, _] rfl ?_
 refine dw_pub 9 rfl ?_
 intro g5 F5 q5
 refine wS [_, _, _, _, _, _, _, _, _, _] rfl ?_
 have RL : Row g5 1 id (some ⟨b82, 0, none⟩) [[.slice (some ⟨b80, 0, none⟩) 3 3], [.slice (some ⟨b81, 0, none⟩) 1 1]] := row_of_block (enc := id) (m := 1) (l := [[.slice (some ⟨b80, 0, none⟩) 3 3], [.slice (some ⟨b81, 0, none⟩) 1 1]]) (fun x hx => by simp at hx; rcases hx with rfl | rfl <;> rfl) q5
 have EL : Els g5 TL [[0, 1, 2], [1]] [[.slice (some ⟨b80, 0, none⟩) 3 3], [.slice (some ⟨b81, 0, none⟩) 1 1]] := by
  refine ⟨rfl, fun i x c h1 h2 => ?_⟩
  match i, h1, h2 with
  | 0, h1, h2 => cases h1; cases h2; exact ⟨_, rfl, some ⟨b80, 0, none⟩, 3, rfl, (row_of_block (enc := intC) (m := 1) (l := [0, 1, 2]) (fun _ _ => rfl) q3).ext (zM F4 F5)⟩
  | 1, h1, h2 => cases h1; cases h2; exact ⟨_, rfl, some ⟨b81, 0, none⟩, 1, rfl, (row_of_block (enc := intC) (m := 1) (l := [1]) (fun _ _ => rfl) q4).ext F5⟩
  | i + 2, h1, h2 => simp at h1
 refine dw_lastH (i := 36) rfl (by decide +kernel) (by decide +kernel) rfl rfl ?_
 refine wK (caps := []) (vs := [.slice _ _ _, .slice _ _ _]) rfl rfl rfl (sameLists_ok [[0, 1, 2], [1]] [[0, 1, 2], [1]] _ _ _ _ cs11 _ g5 (R11.ext (zM (zM (zM (zM (zM (zM (zM (zM (zM (zM (zM (zM E12 E13) E14) E15) E16) E17) E18) E19) F1) F2) F3) F4) F5)) (L11.ext TL.mono (zM (zM (zM (zM (zM (zM (zM (zM (zM (zM (zM (zM E12 E13) E14) E15) E16) E17) E18) E19) F1) F2) F3) F4) F5)) RL EL (by decide) (by decide)) ?_
 rintro _ g6 F6 rfl
 refine qI (i := 37) rfl (by decide +kernel) (wI rfl rfl (v := .bool _) rfl) ?_
 refine qI (i := 38) rfl (by decide +kernel) (qC (v := .bool _) rfl) ?_
 refine dw_pureG (i := 39) rfl (by decide +kernel) rfl rfl (qC (v := .slice _ _ _) rfl) ?_
 refine dw_lastH (i := 40) rfl (by decide +kernel) (by decide +kernel) rfl rfl ?_
 refine wD (zc := [_]) (vs := [(0, .int .i64 _), (1, .int .i64 _)]) (cs := [_, _]) rfl rfl rfl rfl rfl rfl rfl fun b87 hb87 => ?_
 refine wS [_, _, _, _, _, _, _, _, _, _, _] rfl ?_
 refine dw_pub 10 rfl ?_
 intro g7 F7 q7
 refine wS [_, _, _, _, _, _, _, _, _, _, _] rfl ?_
 refine dw_lastH (i := 41) rfl (by decide +kernel) (by decide +kernel) rfl rfl ?_
 refine wK (caps := []) (vs := [.slice _ _ _, .slice _ _ _]) rfl rfl rfl (sameInts_ok [1, 9] [1, 9] _ _ _ _ g7 (S15.ext (zM (zM (zM (zM (zM (zM (zM (zM (zM (zM E16 E17) E18) E19) F1) F2) F3) F4) F5) F6) F7)) (row_of_block (enc := intC) (m := 1) (l := [1, 9]) (fun _ _ => rfl) q7) (by decide)) ?_
 rintro _ g8 F8 rfl
 refine qI (i := 42) rfl (by decide +kernel) (wI rfl rfl (v := .bool _) rfl) ?_
 refine qI (i := 43) rfl (by decide +kernel) (qC (v := .bool _) rfl) ?_
 refine dw_loadG (i := 44) rfl (by decide +kernel) rfl rfl ?_
 refine wE 5 (vs := [.slice _ _ _, .slice _ _ _]) rfl rfl rfl rfl rfl ?_
 refine dw_effH (i := 45) rfl (by decide +kernel) rfl rfl ?_
 refine wD (zc := [_]) (vs := [(0, .int .i64 _)]) (cs := [_]) rfl rfl rfl rfl rfl rfl rfl fun b92 hb92 => ?_
 refine ⟨ext_new hb92 _, ?_⟩
 refine wS [_, _, _, _, _, _, _, _, _, _, _, _] rfl ?_
 refine dw_pub 11 rfl ?_
 intro g9 F9 q9
 refine wS [_, _, _, _, _, _, _, _, _, _, _, _] rfl ?_
 refine dw_effH (i := 46) rfl (by decide +kernel) rfl rfl ?_
 refine wK (caps := []) (vs := [.slice _ _ _]) rfl rfl rfl (pressed_ok [1] _ _ g9) ?_
 rintro _ g10 F10 rfl
 refine ⟨ext_wlm F10 _, ?_⟩
 refine dw_lastH (i := 47) rfl (by decide +kernel) (by decide +kernel) rfl rfl ?_
 refine wK (caps := []) (vs := [.agg _, .agg _]) rfl rfl rfl (sameHands_ok ⟨[1], []⟩ ⟨[1], []⟩ _ _ _ _ _ _ _ _ g10 (RH.ext (zM (zM (zM (zM (zM (zM (zM (zM (zM F1 F2) F3) F4) F5) F6) F7) F8) F9) F10)) ⟨(row_of_block (enc := intC) (m := 1) (l := [1]) (fun _ _ => rfl) q9).ext F10, row_nil _ _⟩ (by decide) (by decide)) ?_
 rintro _ g11 F11 rfl
 refine qI (i := 48) rfl (by decide +kernel) (wI rfl rfl (v := .bool _) rfl) ?_
 refine qI (i := 49) rfl (by decide +kernel) (qE (v := .bool _) rfl) ?_
 refine zI rfl ?_
 refine qV ?_
 refine qN (vs := [_]) Try.results28 ⟨qM rfl rfl, trivial⟩ fun V => ?_
 exact ⟨(zM (zM (zM (zM (zM (zM (zM (zM (zM (zM (zM (zM (zM (zM (zM (zM (zM (zM (zM (zM (zM (zM (zM (zM (zM (zM (zM (zM (zM (zM E1 E2) E3) E4) E5) E6) E7) E8) E9) E10) E11) E12) E13) E14) E15) E16) E17) E18) E19) F1) F2) F3) F4) F5) F6) F7) F8) F9) F10) F11) (qQ V)), rfl⟩
end
end Go.Proofs.Ythphpbdmbmiaiaa
namespace Go.HL
open Go
variable [Lvl]
section
variable {P : Program} {n : Nat} {d : Option Tmp} {ty : TypeId} {ps : String} {af : Array Edge} {S : Sl} {t u : TypeId} {x y : Operand}
theorem pv_remT {a b : Int} (hx : ev n S x = .int .i64 a) (hy : ev n S y = .int .i64 b) (hb : b ≠ 0) :
  pev P (execOp (ev n S) ⟨d, .binOp .rem t x y u, ty, ps, af, none⟩) = some (.value (.int .i64 (a.tmod b))) := by
 simp only [execOp, hx, hy, binOp, Op.intDiv, if_neg hb]
 rfl
theorem pv_quoT {a b c : Int} (hx : ev n S x = .int .i64 a) (hy : ev n S y = .int .i64 b) (hb : b ≠ 0) (hc : a.tdiv b = c) (h : -2 ^ 63 ≤ c ∧ c < 2 ^ 63) :
  pev P (execOp (ev n S) ⟨d, .binOp .quo t x y u, ty, ps, af, none⟩) = some (.value (.int .i64 c)) := by
 subst hc
 have e : IntKind.wrap .i64 (a.tdiv b) = a.tdiv b := IntWalk.i64_in _ ⟨by omega, by omega⟩
 simp only [execOp, hx, hy, binOp, Op.intDiv, if_neg hb, e]
 rfl
end
end Go.HL
namespace Go.Rd
open Go Go.HL Go.Wx
variable [Lvl]
def renL (s : Int → Int) (l : LinkP) : LinkP := ⟨s l.frm, s l.to, l.reg, l.lag⟩
structure RenR (s : Int → Int) (m m' : MachP) : Prop where
 rods : m'.rods = m.rods
 bd : ∀ r, 0 ≤ r → r < m.rods → 0 ≤ s r ∧ s r < m.rods
 btn : m'.buttons = m.buttons.map s
 links : m'.links = m.links.map (renL s)
structure Inv (s t : Int → Int) (n : Int) : Prop where
 sb : ∀ r, 0 ≤ r → r < n → 0 ≤ s r ∧ s r < n
 tb : ∀ r, 0 ≤ r → r < n → 0 ≤ t r ∧ t r < n
 ts : ∀ r, 0 ≤ r → r < n → t (s r) = r
 st : ∀ r, 0 ≤ r → r < n → s (t r) = r
end Go.Rd
namespace Go.Rd
open Go Go.HL Go.Wx
variable [Lvl]
end Go.Rd
namespace Go.Rd
open Go Go.HL Go.Wx
variable [Lvl]
end Go.Rd
namespace Go.Proofs.Ythphpbdmbmiaiaa
open Go Go.HL Go.Proofs Go.Wx Go.Rd
section
variable [Lvl]
set_option maxRecDepth 100000
theorem tmod_gt (x : Int) {n : Int} (hn : 0 < n) : -n < x.tmod n := by
 by_cases h : 0 ≤ x
 ·have := Int.tmod_nonneg n h; omega
 ·obtain ⟨y, rfl⟩ : ∃ y, x = -y := ⟨-x, by omega⟩
  rw [Int.neg_tmod]
  have := Int.tmod_lt_of_pos y hn
  omega
def turnI (x n : Int) : Int := if n < 2 then 0 else (x.tmod n + n).tmod n
theorem turnI_bd (x n : Int) : 0 ≤ turnI x n ∧ (1 ≤ n → turnI x n < n) := by
 unfold turnI
 split
 ·omega
 ·rename_i h
  have h1 : -n < x.tmod n := tmod_gt x (by omega)
  have h2 : 0 ≤ x.tmod n + n := by omega
  exact ⟨Int.tmod_nonneg n h2, fun _ => Int.tmod_lt_of_pos _ (by omega)⟩
theorem turnI_ne {f d n : Int} (hn : 2 ≤ n) (h0 : 0 ≤ f ∧ f < n) (hd : 1 ≤ d ∧ d < n) : turnI (f + d) n ≠ f := by
 unfold turnI
 rw [if_neg (by omega)]
 rw [Int.tmod_eq_emod_of_nonneg (by omega : 0 ≤ f + d), Int.tmod_eq_emod_of_nonneg (by have := Int.emod_nonneg (f + d) (by omega : n ≠ 0); omega)]
 rw [Int.add_emod_right, Int.emod_emod]
 intro e
 by_cases h : f + d < n
 ·rw [Int.emod_eq_of_lt (by omega) h] at e; omega
 ·have : (f + d) % n = f + d - n := by
   rw [← Int.sub_emod_right (f + d) n, Int.emod_eq_of_lt (by omega) (by omega)]
  omega
theorem Turn_ok (x n : Int) (hn : n ≤ 2 ^ 40) (h : AH) : FnT Try.prog 71 #[.int .i64 x, .int .i64 n] h (fun v _ => v = .int .i64 (turnI x n)) := by
 refine wM Try.func71 rfl Try.ntmps71 rfl ?_
 refine qD ?_
 refine qB rfl ?_
 refine qA (qE (v := .int .i64 _) rfl) ?_
 refine qD ?_
 refine qD ?_
 refine qB rfl ?_
 refine qA (qC (v := .int .i64 _) rfl) ?_
 refine qA (qL (v := .bool _) rfl) ?_
 refine qR rfl (fun ht => ?_) (fun ht => ?_)
 ·skip
  have ht' : n < 2 := of_decide_eq_true ht
  refine qD ?_
  refine qB rfl ?_
  refine qA (qE (v := .int .i64 _) rfl) ?_
  refine qV ?_
  refine qN (vs := [_]) Try.results71 ⟨qM rfl rfl, trivial⟩ fun V => ?_
  exact ⟨(qQ V), intE (by rw [turnI, if_pos ht'])⟩
 ·skip
  have ht' : ¬ n < 2 := of_decide_eq_false ht
  have h1 : -n < x.tmod n := tmod_gt x (by omega)
  have h2 : x.tmod n < n := Int.tmod_lt_of_pos _ (by omega)
  refine qO ?_
  refine qD ?_
  refine qB rfl ?_
  refine qA (qC (v := .int .i64 _) rfl) ?_
  refine qA (qC (v := .int .i64 _) rfl) ?_
  refine qA (pv_remT rfl rfl (by omega)) ?_
  refine qA (qC (v := .int .i64 _) rfl) ?_
  refine qA (qT rfl (by omega)) ?_
  refine qA (qC (v := .int .i64 _) rfl) ?_
  refine qA (pv_remT rfl rfl (by omega)) ?_
  refine qA (qE (v := .int .i64 _) rfl) ?_
  refine qV ?_
  refine qN (vs := [_]) Try.results71 ⟨qM rfl rfl, trivial⟩ fun V => ?_
  exact ⟨(qQ V), intE (by rw [turnI, if_neg ht'])⟩
structure Made (size pins links : Int) (m : MachP) : Prop where
 ok : MOK m
 rs : m.rods ≤ size
 ls : m.levers ≤ size
 bl : m.buttons.length ≤ 3
 pl : (m.pins.length : Int) ≤ pins
 ll : (m.links.length : Int) ≤ links
theorem mem_one {α : Type} {P : α → Prop} {l : List α} {z : α} (h : ∀ x ∈ l, P x) (hz : P z) : ∀ x ∈ l ++ [z], P x := fun x hx => by
 rcases List.mem_append.1 hx with hx | hx
 ·exact h x hx
 ·simp at hx; subst hx; exact hz
def CapM (v : Value) : Prop := ∀ AB AQ AL AW cB cQ cL cW m, v = machV AB AQ AL AW cB cQ cL cW m → m.pins.length ≤ cQ ∧ m.links.length ≤ cL
theorem capM_of {z1 z2 z3 z4 z5 zB zW : Value} {A A' : Option Addr} {n n' c c' : Nat} (h : n ≤ c) (h' : n' ≤ c') : CapM (.agg #[z1, z2, z3, z4, z5, zB, .slice A n c, .slice A' n' c', zW]) := by
 intro AB AQ AL AW cB cQ cL cW m e
 simp only [machV, Value.agg.injEq, Array.mk.injEq, List.cons.injEq, Value.slice.injEq] at e
 obtain ⟨_, _, _, _, _, _, ⟨_, e1, e2⟩, ⟨_, e3, e4⟩, _⟩ := e
 omega
set_option maxHeartbeats 8000000 in
theorem MachineOf_okC (b x : Nat) (size pins links : Int) (hs : 1 ≤ size ∧ size ≤ 6) (hp : 0 ≤ pins ∧ pins ≤ 8) (hl : 0 ≤ links ∧ links ≤ 4) (h : AH) :
  FnM Try.prog (.func (.func 18) #[] ([] : List Value).toArray) [.pointer (some ⟨b, 0, none⟩), .int .i64 size, .int .i64 pins, .int .i64 links] h [some (b, .cells #[.int .u64 (x : Int)] 97 (0, 0))]
  (fun v h' M' => ∃ (x' : Nat) (m : MachP), M' = [some (b, .cells #[.int .u64 (x' : Int)] 97 (0, 0))] ∧ MachV h' m v ∧ Made size pins links m ∧ CapM v) := by
 refine fnM_body rfl rfl Try.func18 rfl Try.ntmps18 rfl ?_
 refine qD ?_
 refine qB rfl ?_
 refine zA (cs := [_, _, _, _, _, _, _, _, _]) rfl rfl fun b8 hb8 => ?_
 refine qK [_, _] rfl ?_
 refine qD ?_
 refine qB rfl ?_
 refine qA (qC (v := .pointer (some ⟨b, 0, none⟩)) rfl) ?_
 refine qA (qC (v := .int .i64 _) rfl) ?_
 refine qA (pv_min rfl rfl) ?_
 refine op_fnMM [] [_] [_] (vs := [.pointer _, .int .i64 _, .int .i64 _]) rfl rfl rfl ((Within_ok b x 1 (min size 6) (by omega) (by omega) (by omega) h)) ?_
 rintro _ h1 _ E1 ⟨x1, r, rfl, rfl, r1, r2⟩
 refine qK [_, _] rfl ?_
 refine qA (qC (v := .pointer (some ⟨b, 0, none⟩)) rfl) ?_
 refine qA (qC (v := .int .i64 _) rfl) ?_
 refine qA (pv_min rfl rfl) ?_
 refine op_fnMM [] [_] [_] (vs := [.pointer _, .int .i64 _, .int .i64 _]) rfl rfl rfl ((Within_ok b x1 1 (min size 6) (by omega) (by omega) (by omega) h1)) ?_
 rintro _ h2 _ E2 ⟨x2, v, rfl, rfl, v1, v2⟩
 refine qK [_, _] rfl ?_
 refine qA (qC (v := .pointer (some ⟨b, 0, none⟩)) rfl) ?_
 refine op_fnMM [] [_] [_] (vs := [.pointer _, .int .i64 _]) rfl rfl rfl ((Upto_ok b x2 2 (by omega) h2)) ?_
 rintro _ h3 _ E3 ⟨x3, g, rfl, rfl, g1, g2⟩
 refine qK [_, _] rfl ?_
 refine qA (qC (v := .pointer (some ⟨b, 0, none⟩)) rfl) ?_
 refine op_fnMM [] [_] [_] (vs := [.pointer _, .int .i64 _, .int .i64 _]) rfl rfl rfl ((Within_ok b x3 2 12 (by omega) (by omega) (by omega) h3)) ?_
 rintro _ h4 _ E4 ⟨x4, t, rfl, rfl, t1, t2⟩
 refine qK [_, _] rfl ?_
 refine qA (pv_build (zc := [_, _, _, _, _, _, _, _, _]) (vs := [(0, .int .i64 _), (1, .int .i64 _), (2, .int .i64 _), (3, .int .i64 _)]) (cs := [_, _, _, _, _, _, _, _, _]) rfl rfl rfl rfl rfl rfl) ?_
 refine zA (cs := [_, _, _, _, _, _, _, _, _]) rfl rfl fun b9 hb9 => ?_
 refine qK [_, _, _] rfl ?_
 refine qW 2 (v := .agg #[.int .i64 _, .int .i64 _, .int .i64 _, .int .i64 _, .int .i64 _, .slice _ _ _, .slice _ _ _, .slice _ _ _, .slice _ _ _]) (vs := [_, _, _, _, _, _, _, _, _]) (c' := [_, _, _, _, _, _, _, _, _]) rfl rfl rfl rfl rfl rfl rfl rfl rfl ?_
 refine qK [_, _, _] rfl ?_
 refine qD ?_
 refine qB rfl ?_
 refine qA (qC (v := .pointer (some ⟨b, 0, none⟩)) rfl) ?_
 refine qA (qF rfl rfl rfl rfl 3 rfl) ?_
 refine qH 2 (v := .int .i64 _) rfl rfl rfl rfl ?_
 refine qA (pv_quoT (c := t / 3) rfl rfl (by omega) (Int.tdiv_eq_ediv_of_nonneg (by omega)) (by omega)) ?_
 refine qA (pv_max rfl rfl) ?_
 refine op_fnMM [] [_] [_, _] (vs := [.pointer _, .int .i64 _, .int .i64 _]) rfl rfl rfl ((Within_ok b x4 1 (max 1 (t / 3)) (by omega) (by omega) (by omega) h4)) ?_
 rintro _ h5 _ E5 ⟨x5, o, rfl, rfl, o1, o2⟩
 refine qK [_, _, _] rfl ?_
 refine qA (qF rfl rfl rfl rfl 4 rfl) ?_
 refine qW 2 (v := .int .i64 _) (vs := [_]) (c' := [_, _, _, _, _, _, _, _, _]) rfl rfl rfl rfl rfl rfl rfl rfl rfl ?_
 refine qK [_, _, _] rfl ?_
 refine goes_more ?_
 refine qS [_, _, _, _] rfl ?_
 refine goes_more ?_
 refine qS [_, _, _, _, _] rfl ?_
 refine goes_more ?_
 refine qS [_, _, _, _, _, _] rfl ?_
 refine goes_more ?_
 refine qS [_, _, _, _, _, _, _] rfl ?_
 refine qD ?_
 refine qD ?_
 refine qB rfl ?_
 refine qA (qC (v := .pointer (some ⟨b, 0, none⟩)) rfl) ?_
 refine op_fnMM [] [_] [_, _, _, _, _, _] (vs := [.pointer _, .int .i64 _]) rfl rfl rfl ((Upto_ok b x5 3 (by omega) h5)) ?_
 rintro _ h6 _ E6 ⟨x6, i0, rfl, rfl, i01, i02⟩
 refine qK [_, _, _, _, _, _, _] rfl ?_
 refine qA (qE (v := .int .i64 _) rfl) ?_
 refine qP ?_
 refine xp_loopL [10, 37, 38, 39, 40, 41, 42, 43, 44, 45, 46, 47, 48, 49, 50] 7 (α := Int × Nat × List Int × Acc) (fun ⟨i, y, bs, a⟩ => [(10, .int .i64 i)]) (fun ⟨i, y, bs, a⟩ L => ((L.set 0 (some (b, .cells #[.int .u64 (y : Int)] 97 (0, 0)))).set 2 (some (b9, .cells #[.int .i64 r, .int .i64 v, .int .i64 g, .int .i64 t, .int .i64 o, .slice a.A a.n a.c, .slice none 0 0, .slice none 0 0, .slice none 0 0] 28 (0, 0)))).set 3 (a.p)) (fun ⟨i, y, bs, a⟩ h_i => (0 ≤ i ∧ i + bs.length ≤ 3) ∧ (∀ z ∈ bs, 0 ≤ z ∧ z < r) ∧ AccR 3 1 (bs.flatMap intC) a) (fun ⟨i, y, bs, a⟩ => i.toNat) ((i0, x6, [], acc0)) ⟨rfl, trivial⟩ (rfl) (⟨⟨by omega, by simp; omega⟩, fun _ hz => absurd hz List.not_mem_nil, accR0⟩) ?_
 rintro ⟨i, y, bs, a⟩ T1 h_i E_i J_i
 refine qS [_, _, _, _, _, _, _] rfl ?_
 obtain ⟨⟨K1, K2⟩, K3, KA⟩ := J_i
 refine qD ?_
 refine qD ?_
 refine qB rfl ?_
 refine qA (qC (v := .int .i64 _) rfl) ?_
 refine qA (qL (v := .bool _) rfl) ?_
 refine qR rfl (fun ht => ?_) (fun ht => ?_)
 ·skip
  have hi : 0 < i := of_decide_eq_true ht
  refine qO ?_
  refine qD ?_
  refine qP ?_
  refine xp_dw [true, false, false, false, false, false, false] rfl rfl rfl ?_
  refine qI (i := 0) rfl (by decide +kernel) (qF rfl rfl rfl rfl 5 rfl) ?_
  refine qZ (i := 1) rfl (by decide +kernel) ?_
  refine qH 2 (v := .slice _ _ _) rfl rfl rfl rfl ?_
  refine qI (i := 2) rfl (by decide +kernel) (qC (v := .pointer (some ⟨b, 0, none⟩)) rfl) ?_
  refine qI (i := 3) rfl (by decide +kernel) (qF rfl rfl rfl rfl 0 rfl) ?_
  refine qZ (i := 4) rfl (by decide +kernel) ?_
  refine qH 2 (v := .int .i64 _) rfl rfl rfl rfl ?_
  refine qI (i := 5) rfl (by decide +kernel) (qT rfl (by omega)) ?_
  refine dw_eff (i := 6) rfl (by decide +kernel) ?_
  refine op_fnMM [] [_] [_, _, _, _, _, _] (vs := [.pointer _, .int .i64 _]) rfl rfl rfl ((Upto_ok b y (r - 1) (by omega) h_i)) ?_
  rintro _ h7 _ E7 ⟨y2, z, rfl, rfl, z1, z2⟩
  refine ⟨ext_wlm E7 _, ?_⟩
  refine wS [_, _, _, _, _, _, _] rfl ?_
  refine dw_eff (i := 7) rfl (by decide +kernel) ?_
  refine wD (zc := [_]) (vs := [(0, .int .i64 _)]) (cs := [_]) rfl rfl rfl rfl rfl rfl rfl fun b48 hb48 => ?_
  refine ⟨ext_newM hb48 _, ?_⟩
  refine wS [_, _, _, _, _, _, _, _] rfl ?_
  refine zF (i := 8) rfl (by decide +kernel) (by decide +kernel) ?_
  refine wZ 3 KA rfl rfl rfl (fun V => rdP V (i := 7) rfl) rfl rfl rfl rfl rfl rfl rfl rfl rfl (by omega) rfl (by rw [wU (m := 1) (fun _ _ => rfl)]; simp; omega) fun a2 h2a E2a ha2 => ?_
  refine wS [_, _, _, _, _, _, _, _] rfl ?_
  refine qI (i := 9) rfl (by decide +kernel) (qF rfl rfl rfl rfl 5 rfl) ?_
  refine zF (i := 10) rfl (by decide +kernel) (by decide +kernel) ?_
  refine qW 2 (v := .slice _ _ _) (vs := [_]) (c' := [_, _, _, _, _, _, _, _, _]) rfl rfl rfl rfl rfl rfl rfl rfl rfl ?_
  refine wS [_, _, _, _, _, _, _, _] rfl ?_
  refine zI rfl ?_
  refine qB rfl ?_
  refine qA (qC (v := .int .i64 _) rfl) ?_
  refine qA (qT rfl (by omega)) ?_
  refine qA (qE (v := .int .i64 _) rfl) ?_
  refine ⟨(i - 1, y2, bs ++ [z], a2), ⟨rfl, trivial⟩, rfl, rfl, (zM (zM E_i E7) E2a), fun h3 E3 => ⟨⟨by omega, by simp; omega⟩, mem_one K3 ⟨z1, by omega⟩, by rw [List.flatMap_append]; exact ha2⟩, by first | omega | (dsimp only; omega), ?_⟩
  repeat (first | exact qY _ _ _ | refine wG (by decide) ?_ | refine qX rfl ?_ | refine wH rfl ?_)
 ·skip
  have hi0 : i = 0 := by have := of_decide_eq_false ht; omega
  obtain ⟨pB, AB, nB, cB⟩ := a
  obtain rfl : nB = bs.length := by have := AccR.len KA; rw [wU (m := 1) (fun _ _ => rfl)] at this; dsimp only at this; omega
  dsimp only at *
  refine goes_pubO 3 rfl ?_
  intro gB GB PB
  refine qS [_, _, _, _, _, _, _] rfl ?_
  have RB : Row gB 1 intC AB bs := ⟨fun _ _ => rfl, AccR.rd KA PB⟩
  refine wV ?_
  refine qD ?_
  refine qD ?_
  refine qB rfl ?_
  refine qA (qC (v := .pointer (some ⟨b, 0, none⟩)) rfl) ?_
  refine qA (qC (v := .int .i64 _) rfl) ?_
  refine op_fnMM [] [_] [_, _, _, _, _, _] (vs := [.pointer _, .int .i64 _]) rfl rfl rfl ((Upto_ok b y pins (by omega) gB)) ?_
  rintro _ h8 _ E8 ⟨x8, j0, rfl, rfl, j01, j02⟩
  refine qK [_, _, _, _, _, _, _] rfl ?_
  refine qA (qE (v := .int .i64 _) rfl) ?_
  refine qP ?_
  refine xp_loopL [11, 54, 55, 56, 57, 58, 59, 60, 61, 62, 63, 64, 65, 66, 67, 68, 69, 70, 71, 72, 73, 74, 75, 76, 77, 78] 7 (α := Int × Nat × List PinP × Acc) (fun ⟨j, y, qs, a⟩ => [(11, .int .i64 j)]) (fun ⟨j, y, qs, a⟩ L => ((L.set 0 (some (b, .cells #[.int .u64 (y : Int)] 97 (0, 0)))).set 2 (some (b9, .cells #[.int .i64 r, .int .i64 v, .int .i64 g, .int .i64 t, .int .i64 o, .slice AB bs.length cB, .slice a.A a.n a.c, .slice none 0 0, .slice none 0 0] 28 (0, 0)))).set 4 (a.p)) (fun ⟨j, y, qs, a⟩ h_j => (0 ≤ j ∧ j + qs.length ≤ pins) ∧ (∀ p ∈ qs, (0 ≤ p.rod ∧ p.rod < r) ∧ (0 ≤ p.lever ∧ p.lever < v) ∧ (0 ≤ p.lag ∧ p.lag ≤ t)) ∧ AccR 36 3 (qs.flatMap pinC) a) (fun ⟨j, y, qs, a⟩ => j.toNat) ((j0, x8, [], acc0)) ⟨rfl, trivial⟩ (rfl) (⟨⟨by omega, by simp; omega⟩, fun _ hz => absurd hz List.not_mem_nil, accR0⟩) ?_
  rintro ⟨j, y, qs, a⟩ T3 h_j E_j J_j
  refine qS [_, _, _, _, _, _, _] rfl ?_
  obtain ⟨⟨L1, L2⟩, L3, KA⟩ := J_j
  refine qD ?_
  refine qD ?_
  refine qB rfl ?_
  refine qA (qC (v := .int .i64 _) rfl) ?_
  refine qA (qL (v := .bool _) rfl) ?_
  refine qR rfl (fun hu => ?_) (fun hu => ?_)
  ·skip
   have hj : 0 < j := of_decide_eq_true hu
   refine qO ?_
   refine qD ?_
   refine qP ?_
   refine xp_dw [true, false, false, false, false, false, false] rfl rfl rfl ?_
   refine qI (i := 0) rfl (by decide +kernel) (qF rfl rfl rfl rfl 6 rfl) ?_
   refine qZ (i := 1) rfl (by decide +kernel) ?_
   refine qH 2 (v := .slice _ _ _) rfl rfl rfl rfl ?_
   refine qI (i := 2) rfl (by decide +kernel) (qC (v := .pointer (some ⟨b, 0, none⟩)) rfl) ?_
   refine qI (i := 3) rfl (by decide +kernel) (qF rfl rfl rfl rfl 0 rfl) ?_
   refine qZ (i := 4) rfl (by decide +kernel) ?_
   refine qH 2 (v := .int .i64 _) rfl rfl rfl rfl ?_
   refine qI (i := 5) rfl (by decide +kernel) (qT rfl (by omega)) ?_
   refine qI (i := 7) rfl (by decide +kernel) (qC (v := .pointer (some ⟨b, 0, none⟩)) rfl) ?_
   refine qI (i := 8) rfl (by decide +kernel) (qF rfl rfl rfl rfl 1 rfl) ?_
   refine qZ (i := 9) rfl (by decide +kernel) ?_
   refine qH 2 (v := .int .i64 _) rfl rfl rfl rfl ?_
   refine qI (i := 10) rfl (by decide +kernel) (qT rfl (by omega)) ?_
   refine qI (i := 12) rfl (by decide +kernel) (qC (v := .pointer (some ⟨b, 0, none⟩)) rfl) ?_
   refine qI (i := 13) rfl (by decide +kernel) (qF rfl rfl rfl rfl 3 rfl) ?_
   refine qZ (i := 14) rfl (by decide +kernel) ?_
   refine qH 2 (v := .int .i64 _) rfl rfl rfl rfl ?_
   refine qI (i := 15) rfl (by decide +kernel) (pv_quoT (c := t / 2) rfl rfl (by omega) (Int.tdiv_eq_ediv_of_nonneg (by omega)) (by omega)) ?_
   refine dw_eff (i := 6) rfl (by decide +kernel) ?_
   refine op_fnMM [] [_] [_, _, _, _, _, _] (vs := [.pointer _, .int .i64 _]) rfl rfl rfl ((Upto_ok b y (r - 1) (by omega) h_j)) ?_
   rintro _ h9 _ E9 ⟨y2, z, rfl, rfl, z1, z2⟩
   refine ⟨ext_wlm E9 _, ?_⟩
   refine wS [_, _, _, _, _, _, _] rfl ?_
   refine dw_eff (i := 11) rfl (by decide +kernel) ?_
   refine op_fnMM [] [_] [_, _, _, _, _, _] (vs := [.pointer _, .int .i64 _]) rfl rfl rfl ((Upto_ok b y2 (v - 1) (by omega) h9)) ?_
   rintro _ h10 _ E10 ⟨y3, w, rfl, rfl, w1, w2⟩
   refine ⟨ext_wlm E10 _, ?_⟩
   refine wS [_, _, _, _, _, _, _] rfl ?_
   refine dw_eff (i := 16) rfl (by decide +kernel) ?_
   refine op_fnMM [] [_] [_, _, _, _, _, _] (vs := [.pointer _, .int .i64 _]) rfl rfl rfl ((Upto_ok b y3 (t / 2) (by omega) h10)) ?_
   rintro _ h11 _ E11 ⟨y4, e, rfl, rfl, e1, e2⟩
   refine ⟨ext_wlm E11 _, ?_⟩
   refine wS [_, _, _, _, _, _, _] rfl ?_
   refine qI (i := 17) rfl (by decide +kernel) (pv_build (zc := [_, _, _]) (vs := [(0, .int .i64 _), (1, .int .i64 _), (2, .int .i64 _)]) (cs := [_, _, _]) rfl rfl rfl rfl rfl rfl) ?_
   refine dw_eff (i := 18) rfl (by decide +kernel) ?_
   refine wD (zc := [_, _, _]) (vs := [(0, .agg #[.int .i64 _, .int .i64 _, .int .i64 _])]) (cs := [_, _, _]) rfl rfl rfl rfl rfl rfl rfl fun b76 hb76 => ?_
   refine ⟨ext_newM hb76 _, ?_⟩
   refine wS [_, _, _, _, _, _, _, _] rfl ?_
   refine zF (i := 19) rfl (by decide +kernel) (by decide +kernel) ?_
   refine wZ 4 KA rfl rfl rfl (fun V => rdP V (i := 7) rfl) rfl rfl rfl rfl rfl rfl rfl rfl rfl (by omega) rfl (by rw [wU (m := 3) (fun _ _ => rfl)]; simp; omega) fun a2 h4a E4a ha2 => ?_
   refine wS [_, _, _, _, _, _, _, _] rfl ?_
   refine qI (i := 20) rfl (by decide +kernel) (qF rfl rfl rfl rfl 6 rfl) ?_
   refine zF (i := 21) rfl (by decide +kernel) (by decide +kernel) ?_
   refine qW 2 (v := .slice _ _ _) (vs := [_]) (c' := [_, _, _, _, _, _, _, _, _]) rfl rfl rfl rfl rfl rfl rfl rfl rfl ?_
   refine wS [_, _, _, _, _, _, _, _] rfl ?_
   refine zI rfl ?_
   refine qB rfl ?_
   refine qA (qC (v := .int .i64 _) rfl) ?_
   refine qA (qT rfl (by omega)) ?_
   refine qA (qE (v := .int .i64 _) rfl) ?_
   refine ⟨(j - 1, y4, qs ++ [⟨z, w, e⟩], a2), ⟨rfl, trivial⟩, rfl, rfl, (zM (zM (zM (zM E_j E9) E10) E11) E4a), fun h3 E3 => ⟨⟨by omega, by simp; omega⟩, mem_one L3 ⟨⟨z1, by show z < r; omega⟩, ⟨w1, by show w < v; omega⟩, ⟨e1, by show e ≤ t; omega⟩⟩, by rw [List.flatMap_append]; exact ha2⟩, by first | omega | (dsimp only; omega), ?_⟩
   repeat (first | exact qY _ _ _ | refine wG (by decide) ?_ | refine qX rfl ?_ | refine wH rfl ?_)
  ·skip
   have hj0 : j = 0 := by have := of_decide_eq_false hu; omega
   obtain ⟨pP, AQ, nP, cQ⟩ := a
   obtain rfl : nP = qs.length := by have := AccR.len KA; rw [wU (m := 3) (fun _ _ => rfl)] at this; dsimp only at this; omega
   dsimp only at *
   have hcQ : qs.length ≤ cQ := AccP.cap KA (by omega)
   refine goes_pubO 4 rfl ?_
   intro gP GP PP
   refine qS [_, _, _, _, _, _, _] rfl ?_
   have RP : Row gP 3 pinC AQ qs := ⟨fun _ _ => rfl, AccR.rd KA PP⟩
   refine wV ?_
   refine xp_cutB [12, 13, 79, 80, 81, 82, 83, 84, 85, 86, 87, 88, 89, 90, 91, 92, 93, 94, 95, 96, 97, 98, 99, 100, 101, 102, 103, 104, 105, 106, 107, 108, 109, 110, 111, 112, 113, 114, 115, 116, 117, 118, 119, 120, 121, 122, 123, 124, 125] 7 (α := Nat × List LinkP × Acc) (fun ⟨y, ls, a⟩ => []) (fun ⟨y, ls, a⟩ L => ((L.set 0 (some (b, .cells #[.int .u64 (y : Int)] 97 (0, 0)))).set 2 (some (b9, .cells #[.int .i64 r, .int .i64 v, .int .i64 g, .int .i64 t, .int .i64 o, .slice AB bs.length cB, .slice AQ qs.length cQ, .slice a.A a.n a.c, .slice none 0 0] 28 (0, 0)))).set 5 (a.p)) (fun ⟨y, ls, a⟩ h_y => (ls.length : Int) ≤ links ∧ (∀ p ∈ ls, (0 ≤ p.frm ∧ p.frm < r) ∧ (0 ≤ p.to ∧ p.to < r) ∧ p.frm ≠ p.to ∧ (-1 ≤ p.reg ∧ p.reg < g) ∧ (1 ≤ p.lag ∧ p.lag ≤ t)) ∧ AccR 39 4 (ls.flatMap linkC) a) ?_ ?_
   ·skip
    refine qD ?_
    refine qB rfl ?_
    refine qA (qC (v := .pointer (some ⟨b, 0, none⟩)) rfl) ?_
    refine qA (qC (v := .int .i64 _) rfl) ?_
    refine op_fnMM [] [_] [_, _, _, _, _, _] (vs := [.pointer _, .int .i64 _]) rfl rfl rfl ((Upto_ok b y links (by omega) gP)) ?_
    rintro _ h12 _ E12 ⟨x12, k0, rfl, rfl, k01, k02⟩
    refine qK [_, _, _, _, _, _, _] rfl ?_
    refine qA (qE (v := .int .i64 _) rfl) ?_
    refine qP ?_
    refine xp_loopL [12, 13, 82, 83, 84, 85, 86, 87, 88, 89, 90, 91, 92, 93, 94, 95, 96, 97, 98, 99, 100, 101, 102, 103, 104, 105, 106, 107, 108, 109, 110, 111, 112, 113, 114, 115, 116, 117, 118, 119, 120, 121, 122, 123, 124, 125] 7 (α := Int × Nat × List LinkP × Acc) (fun ⟨k, y, ls, a⟩ => [(12, .int .i64 k)]) (fun ⟨k, y, ls, a⟩ L => ((L.set 0 (some (b, .cells #[.int .u64 (y : Int)] 97 (0, 0)))).set 2 (some (b9, .cells #[.int .i64 r, .int .i64 v, .int .i64 g, .int .i64 t, .int .i64 o, .slice AB bs.length cB, .slice AQ qs.length cQ, .slice a.A a.n a.c, .slice none 0 0] 28 (0, 0)))).set 5 (a.p)) (fun ⟨k, y, ls, a⟩ h_k => (0 ≤ k ∧ k + ls.length ≤ links) ∧ (∀ p ∈ ls, (0 ≤ p.frm ∧ p.frm < r) ∧ (0 ≤ p.to ∧ p.to < r) ∧ p.frm ≠ p.to ∧ (-1 ≤ p.reg ∧ p.reg < g) ∧ (1 ≤ p.lag ∧ p.lag ≤ t)) ∧ AccR 39 4 (ls.flatMap linkC) a) (fun ⟨k, y, ls, a⟩ => k.toNat) ((k0, x12, [], acc0)) ⟨rfl, trivial⟩ (rfl) (⟨⟨by omega, by simp; omega⟩, fun _ hz => absurd hz List.not_mem_nil, accR0⟩) ?_
    rintro ⟨k, y, ls, a⟩ T6 h_k E_k J_k
    refine qS [_, _, _, _, _, _, _] rfl ?_
    obtain ⟨⟨N1, N2⟩, N3, KA⟩ := J_k
    refine qD ?_
    refine qD ?_
    refine qB rfl ?_
    refine qA (qC (v := .int .i64 _) rfl) ?_
    refine qA (qL (v := .bool _) rfl) ?_
    refine qA (qC (v := .bool _) rfl) ?_
    rcases Bool.eq_false_or_eq_true (decide (k > 0)) with hk | hk
    ·skip
     have hk0 : k > 0 := of_decide_eq_true hk
     refine qG rfl hk ?_
     refine qA (qF rfl rfl rfl rfl 0 rfl) ?_
     refine qG rfl hk ?_
     refine qH 2 (v := .int .i64 _) rfl rfl rfl rfl ?_
     refine qG rfl hk ?_
     refine qA (qL (v := .bool _) rfl) ?_
     refine qA (wI rfl hk (v := .bool _) rfl) ?_
     refine qR rfl (fun hr => ?_) (fun hr => ?_)
     ·skip
      have hr1 : r > 1 := of_decide_eq_true hr
      refine qO ?_
      refine qD ?_
      refine qP ?_
      refine qD ?_
      refine xp_dw [true, false, false, false, false, false, false] rfl rfl rfl ?_
      refine qI (i := 0) rfl (by decide +kernel) (qC (v := .pointer (some ⟨b, 0, none⟩)) rfl) ?_
      refine qI (i := 1) rfl (by decide +kernel) (qF rfl rfl rfl rfl 0 rfl) ?_
      refine qZ (i := 2) rfl (by decide +kernel) ?_
      refine qH 2 (v := .int .i64 _) rfl rfl rfl rfl ?_
      refine qI (i := 3) rfl (by decide +kernel) (qT rfl (by omega)) ?_
      refine qI (i := 5) rfl (by decide +kernel) (qC (v := .pointer (some ⟨b, 0, none⟩)) rfl) ?_
      refine qI (i := 6) rfl (by decide +kernel) (qF rfl rfl rfl rfl 2 rfl) ?_
      refine qZ (i := 7) rfl (by decide +kernel) ?_
      refine qH 2 (v := .int .i64 _) rfl rfl rfl rfl ?_
      refine qI (i := 8) rfl (by decide +kernel) (qT rfl (by omega)) ?_
      refine qI (i := 10) rfl (by decide +kernel) (qC (v := .pointer (some ⟨b, 0, none⟩)) rfl) ?_
      refine qI (i := 11) rfl (by decide +kernel) (qF rfl rfl rfl rfl 3 rfl) ?_
      refine qZ (i := 12) rfl (by decide +kernel) ?_
      refine qH 2 (v := .int .i64 _) rfl rfl rfl rfl ?_
      refine qI (i := 13) rfl (by decide +kernel) (pv_quoT (c := t / 3) rfl rfl (by omega) (Int.tdiv_eq_ediv_of_nonneg (by omega)) (by omega)) ?_
      refine qI (i := 14) rfl (by decide +kernel) (pv_max rfl rfl) ?_
      refine dw_eff (i := 4) rfl (by decide +kernel) ?_
      refine op_fnMM [] [_] [_, _, _, _, _, _] (vs := [.pointer _, .int .i64 _]) rfl rfl rfl ((Upto_ok b y (r - 1) (by omega) h_k)) ?_
      rintro _ h13 _ E13 ⟨y2, z, rfl, rfl, z1, z2⟩
      refine ⟨ext_wlm E13 _, ?_⟩
      refine wS [_, _, _, _, _, _, _] rfl ?_
      refine dw_eff (i := 9) rfl (by decide +kernel) ?_
      refine op_fnMM [] [_] [_, _, _, _, _, _] (vs := [.pointer _, .int .i64 _, .int .i64 _]) rfl rfl rfl ((Within_ok b y2 (-1) (g - 1) (by omega) (by omega) (by omega) h13)) ?_
      rintro _ h14 _ E14 ⟨y3, e, rfl, rfl, e1, e2⟩
      refine ⟨ext_wlm E14 _, ?_⟩
      refine wS [_, _, _, _, _, _, _] rfl ?_
      refine zF (i := 15) rfl (by decide +kernel) (by decide +kernel) ?_
      refine op_fnMM [] [_] [_, _, _, _, _, _] (vs := [.pointer _, .int .i64 _, .int .i64 _]) rfl rfl rfl ((Within_ok b y3 1 (max 1 (t / 3)) (by omega) (by omega) (by omega) h14)) ?_
      rintro _ h15 _ E15 ⟨y4, w, rfl, rfl, w1, w2⟩
      refine wS [_, _, _, _, _, _, _] rfl ?_
      refine qI (i := 16) rfl (by decide +kernel) (pv_build (zc := [_, _, _, _]) (vs := [(0, .int .i64 _), (2, .int .i64 _), (3, .int .i64 _)]) (cs := [_, _, _, _]) rfl rfl rfl rfl rfl rfl) ?_
      refine dw_eff (i := 17) rfl (by decide +kernel) ?_
      refine zA (cs := [_, _, _, _]) rfl rfl fun b13 hb13 => ?_
      refine ⟨ext_newM hb13 _, ?_⟩
      refine wS [_, _, _, _, _, _, _, _] rfl ?_
      refine zF (i := 18) rfl (by decide +kernel) (by decide +kernel) ?_
      refine qW 7 (v := .agg #[.int .i64 _, .int .i64 _, .int .i64 _, .int .i64 _]) (vs := [_, _, _, _]) (c' := [_, _, _, _]) rfl rfl rfl rfl rfl rfl rfl rfl rfl ?_
      refine wS [_, _, _, _, _, _, _, _] rfl ?_
      refine zI rfl ?_
      refine qD ?_
      refine xp_dw [true, false, false, false, false, false, false, false] rfl rfl rfl ?_
      refine qI (i := 0) rfl (by decide +kernel) (qF rfl rfl rfl rfl 0 rfl) ?_
      refine qZ (i := 1) rfl (by decide +kernel) ?_
      refine qH 7 (v := .int .i64 _) rfl rfl rfl rfl ?_
      refine qI (i := 2) rfl (by decide +kernel) (qC (v := .pointer (some ⟨b, 0, none⟩)) rfl) ?_
      refine qI (i := 3) rfl (by decide +kernel) (qF rfl rfl rfl rfl 0 rfl) ?_
      refine qZ (i := 4) rfl (by decide +kernel) ?_
      refine qH 2 (v := .int .i64 _) rfl rfl rfl rfl ?_
      refine qI (i := 5) rfl (by decide +kernel) (qT rfl (by omega)) ?_
      refine qI (i := 8) rfl (by decide +kernel) (qF rfl rfl rfl rfl 0 rfl) ?_
      refine qZ (i := 9) rfl (by decide +kernel) ?_
      refine qH 2 (v := .int .i64 _) rfl rfl rfl rfl ?_
      refine dw_eff (i := 6) rfl (by decide +kernel) ?_
      refine op_fnMM [] [_] [_, _, _, _, _, _, _] (vs := [.pointer _, .int .i64 _, .int .i64 _]) rfl rfl rfl ((Within_ok b y4 1 (r - 1) (by omega) (by omega) (by omega) h15)) ?_
      rintro _ h16 _ E16 ⟨y5, d, rfl, rfl, d1, d2⟩
      refine ⟨ext_wlm E16 _, ?_⟩
      refine wS [_, _, _, _, _, _, _, _] rfl ?_
      refine qI (i := 7) rfl (by decide +kernel) (qT rfl (by omega)) ?_
      refine zF (i := 10) rfl (by decide +kernel) (by decide +kernel) ?_
      refine wK (caps := []) (vs := [.int .i64 _, .int .i64 _]) rfl rfl rfl (Turn_ok (z + d) r (by omega) h16) ?_
      rintro _ h17 E17 rfl
      have tb := turnI_bd (z + d) r
      have tn := turnI_ne (f := z) (d := d) (n := r) (by omega) ⟨z1, by omega⟩ ⟨d1, by omega⟩
      refine qI (i := 11) rfl (by decide +kernel) (qF rfl rfl rfl rfl 1 rfl) ?_
      refine zF (i := 12) rfl (by decide +kernel) (by decide +kernel) ?_
      refine qW 7 (v := .int .i64 _) (vs := [_]) (c' := [_, _, _, _]) rfl rfl rfl rfl rfl rfl rfl rfl rfl ?_
      refine wS [_, _, _, _, _, _, _, _] rfl ?_
      refine zI rfl ?_
      refine qB rfl ?_
      refine qA (qF rfl rfl rfl rfl 7 rfl) ?_
      refine qH 2 (v := .slice _ _ _) rfl rfl rfl rfl ?_
      refine wE 7 (vs := [.int .i64 _, .int .i64 _, .int .i64 _, .int .i64 _]) rfl rfl rfl rfl rfl ?_
      refine wD (zc := [_, _, _, _]) (vs := [(0, .agg #[.int .i64 _, .int .i64 _, .int .i64 _, .int .i64 _])]) (cs := [_, _, _, _]) rfl rfl rfl rfl rfl rfl rfl fun b123 hb123 => ?_
      refine qK [_, _, _, _, _, _, _, _, _] rfl ?_
      refine wZ 5 KA rfl rfl rfl (fun V => rdP V (i := 8) rfl) rfl rfl rfl rfl rfl rfl rfl rfl rfl (by omega) rfl (by rw [wU (m := 4) (fun _ _ => rfl)]; simp; omega) fun a2 h7a E7a ha2 => ?_
      refine qK [_, _, _, _, _, _, _, _, _] rfl ?_
      refine qA (qF rfl rfl rfl rfl 7 rfl) ?_
      refine qW 2 (v := .slice _ _ _) (vs := [_]) (c' := [_, _, _, _, _, _, _, _, _]) rfl rfl rfl rfl rfl rfl rfl rfl rfl ?_
      refine qK [_, _, _, _, _, _, _, _, _] rfl ?_
      refine qB rfl ?_
      refine qA (qC (v := .int .i64 _) rfl) ?_
      refine qA (qT rfl (by omega)) ?_
      refine qA (qE (v := .int .i64 _) rfl) ?_
      refine ⟨(k - 1, y5, ls ++ [⟨z, turnI (z + d) r, e, w⟩], a2), ⟨rfl, trivial⟩, rfl, rfl, (zM (zM (zM (zM (zM (zM E_k E13) E14) E15) E16) E17) E7a), fun h3 E3 => ⟨⟨by omega, by simp; omega⟩, mem_one N3 ⟨⟨z1, by show z < r; omega⟩, ⟨tb.1, tb.2 (by omega)⟩, fun he => tn he.symm, ⟨e1, by show e < g; omega⟩, ⟨w1, by show w ≤ t; omega⟩⟩, by rw [List.flatMap_append]; exact ha2⟩, by first | omega | (dsimp only; omega), ?_⟩
      repeat (first | exact qY _ _ _ | refine wG (by decide) ?_ | refine qX rfl ?_ | refine wH rfl ?_)
     ·skip
      refine wV ?_
      refine ⟨(y, ls, a), trivial, rfl, rfl, (zM E12 E_k), fun h3 E3 => ⟨by omega, N3, KA⟩, ?_⟩
      repeat (first | exact wY _ _ | exact qY _ _ _ | refine wG (by decide) ?_ | refine qX rfl ?_ | refine wH rfl ?_)
    ·skip
     have hk0 : k = 0 := by have := of_decide_eq_false hk; omega
     refine qJ rfl hk ?_
     refine qJ rfl hk ?_
     refine qJ rfl hk ?_
     refine qA (wN rfl hk (v := .bool _) rfl) ?_
     refine zC rfl (rfl) ?_
     refine wV ?_
     refine ⟨(y, ls, a), trivial, rfl, rfl, (zM E12 E_k), fun h3 E3 => ⟨by omega, N3, KA⟩, ?_⟩
     repeat (first | exact wY _ _ | exact qY _ _ _ | refine wG (by decide) ?_ | refine qX rfl ?_ | refine wH rfl ?_)
   ·rintro ⟨y, ls, a⟩ T5 h_y E_y J_y
    refine qS [_, _, _, _, _, _, _] rfl ?_
    obtain ⟨N1, N3, KA⟩ := J_y
    obtain ⟨pL, AL, nL, cL⟩ := a
    obtain rfl : nL = ls.length := by have := AccR.len KA; rw [wU (m := 4) (fun _ _ => rfl)] at this; dsimp only at this; omega
    dsimp only at *
    have hcL : ls.length ≤ cL := AccP.cap KA (by omega)
    refine goes_pubO 5 rfl ?_
    intro gL GL PL
    refine qS [_, _, _, _, _, _, _] rfl ?_
    have RL : Row gL 4 linkC AL ls := ⟨fun _ _ => rfl, AccR.rd KA PL⟩
    refine qD ?_
    refine qD ?_
    refine qB rfl ?_
    refine qA (qE (v := .int .i64 _) rfl) ?_
    refine qP ?_
    refine xp_loopL [14, 126, 127, 128, 129, 130, 131, 132, 133, 134, 135, 136, 137, 138] 7 (α := Nat × Nat × List Int × Acc) (fun ⟨k, y, ws, a⟩ => [(14, .int .i64 k)]) (fun ⟨k, y, ws, a⟩ L => ((L.set 0 (some (b, .cells #[.int .u64 (y : Int)] 97 (0, 0)))).set 2 (some (b9, .cells #[.int .i64 r, .int .i64 v, .int .i64 g, .int .i64 t, .int .i64 o, .slice AB bs.length cB, .slice AQ qs.length cQ, .slice AL ls.length cL, .slice a.A a.n a.c] 28 (0, 0)))).set 6 (a.p)) (fun ⟨k, y, ws, a⟩ h_k => (k ≤ v.toNat ∧ ws.length = k) ∧ (∀ z ∈ ws, 0 ≤ z ∧ z ≤ 50) ∧ AccR 3 1 (ws.flatMap intC) a) (fun ⟨k, y, ws, a⟩ => v.toNat - k) ((0, y, [], acc0)) ⟨rfl, trivial⟩ (rfl) (⟨⟨by omega, rfl⟩, fun _ hz => absurd hz List.not_mem_nil, accR0⟩) ?_
    rintro ⟨k, y, ws, a⟩ T8 h_k E_k J_k
    refine qS [_, _, _, _, _, _, _] rfl ?_
    obtain ⟨⟨M1, M2⟩, M3, KA⟩ := J_k
    refine qD ?_
    refine qD ?_
    refine qB rfl ?_
    refine qA (qC (v := .int .i64 _) rfl) ?_
    refine qA (qF rfl rfl rfl rfl 1 rfl) ?_
    refine qH 2 (v := .int .i64 _) rfl rfl rfl rfl ?_
    refine qA (qL (v := .bool _) rfl) ?_
    refine qR rfl (fun hw => ?_) (fun hw => ?_)
    ·skip
     have hkv : (k : Int) < v := of_decide_eq_true hw
     refine qO ?_
     refine qD ?_
     refine qP ?_
     refine xp_dw [true, false, false, false, false, false, false] rfl rfl rfl ?_
     refine qI (i := 0) rfl (by decide +kernel) (qF rfl rfl rfl rfl 8 rfl) ?_
     refine qZ (i := 1) rfl (by decide +kernel) ?_
     refine qH 2 (v := .slice _ _ _) rfl rfl rfl rfl ?_
     refine qI (i := 2) rfl (by decide +kernel) (qC (v := .pointer (some ⟨b, 0, none⟩)) rfl) ?_
     refine dw_eff (i := 3) rfl (by decide +kernel) ?_
     refine op_fnMM [] [_] [_, _, _, _, _, _] (vs := [.pointer _, .int .i64 _]) rfl rfl rfl ((Upto_ok b y 9 (by omega) h_k)) ?_
     rintro _ h18 _ E18 ⟨y2, z, rfl, rfl, z1, z2⟩
     refine ⟨ext_wlm E18 _, ?_⟩
     refine wS [_, _, _, _, _, _, _] rfl ?_
     refine dw_eff (i := 4) rfl (by decide +kernel) ?_
     refine wD (zc := [_]) (vs := [(0, .int .i64 _)]) (cs := [_]) rfl rfl rfl rfl rfl rfl rfl fun b136 hb136 => ?_
     refine ⟨ext_newM hb136 _, ?_⟩
     refine wS [_, _, _, _, _, _, _, _] rfl ?_
     refine zF (i := 5) rfl (by decide +kernel) (by decide +kernel) ?_
     refine wZ 6 KA rfl rfl rfl (fun V => rdP V (i := 7) rfl) rfl rfl rfl rfl rfl rfl rfl rfl rfl (by omega) rfl (by rw [wU (m := 1) (fun _ _ => rfl)]; simp; omega) fun a2 h9a E9a ha2 => ?_
     refine wS [_, _, _, _, _, _, _, _] rfl ?_
     refine qI (i := 6) rfl (by decide +kernel) (qF rfl rfl rfl rfl 8 rfl) ?_
     refine zF (i := 7) rfl (by decide +kernel) (by decide +kernel) ?_
     refine qW 2 (v := .slice _ _ _) (vs := [_]) (c' := [_, _, _, _, _, _, _, _, _]) rfl rfl rfl rfl rfl rfl rfl rfl rfl ?_
     refine wS [_, _, _, _, _, _, _, _] rfl ?_
     refine zI rfl ?_
     refine qB rfl ?_
     refine qA (qC (v := .int .i64 _) rfl) ?_
     refine qA (qT rfl (by omega)) ?_
     refine qA (qE (v := .int .i64 _) rfl) ?_
     refine ⟨(k + 1, y2, ws ++ [z], a2), ⟨rfl, trivial⟩, rfl, rfl, (zM (zM E_k E18) E9a), fun h3 E3 => ⟨⟨by omega, by simp; omega⟩, mem_one M3 ⟨z1, by omega⟩, by rw [List.flatMap_append]; exact ha2⟩, by first | omega | (dsimp only; omega), ?_⟩
     repeat (first | exact qY _ _ _ | refine wG (by decide) ?_ | refine qX rfl ?_ | refine wH rfl ?_)
    ·skip
     have hkv : (k : Int) = v := by have := of_decide_eq_false hw; omega
     obtain ⟨pW, AW, nW, cW⟩ := a
     obtain rfl : nW = ws.length := by have := AccR.len KA; rw [wU (m := 1) (fun _ _ => rfl)] at this; dsimp only at this; omega
     dsimp only at *
     refine goes_pubO 6 rfl ?_
     intro gW GW PW
     refine qS [_, _, _, _, _, _, _] rfl ?_
     have RW : Row gW 1 intC AW ws := ⟨fun _ _ => rfl, AccR.rd KA PW⟩
     refine wV ?_
     refine qD ?_
     refine qB rfl ?_
     refine wE 2 (vs := [.int .i64 _, .int .i64 _, .int .i64 _, .int .i64 _, .int .i64 _, .slice _ _ _, .slice _ _ _, .slice _ _ _, .slice _ _ _]) rfl rfl rfl rfl rfl ?_
     refine qW 1 (v := .agg #[.int .i64 _, .int .i64 _, .int .i64 _, .int .i64 _, .int .i64 _, .slice _ _ _, .slice _ _ _, .slice _ _ _, .slice _ _ _]) (vs := [_, _, _, _, _, _, _, _, _]) (c' := [_, _, _, _, _, _, _, _, _]) rfl rfl rfl rfl rfl rfl rfl rfl rfl ?_
     refine qK [_, _, _, _, _, _, _] rfl ?_
     refine qV ?_
     refine qN (vs := [_]) Try.results18 ⟨resV_agg 1 rfl rfl rfl rfl rfl (vs := [.int .i64 _, .int .i64 _, .int .i64 _, .int .i64 _, .int .i64 _, .slice _ _ _, .slice _ _ _, .slice _ _ _, .slice _ _ _]) rfl, trivial⟩ fun V => ?_
     obtain ⟨h9, E9, e9, V9⟩ := wl_drop [_, _, _, _, _, _] [_] V
     have RB9 := (RB.ext (zM (zM (zM (zM (zM (zM E8 E_j) GP) E_y) GL) E_k) GW)).ext E9
     refine ⟨h9, _, e9, V9, zM (zM (zM (zM (zM (zM (zM (zM (zM (zM (zM (zM (zM (zM (zM E1 E2) E3) E4) E5) E6) E_i) GB) E8) E_j) GP) E_y) GL) E_k) GW) E9, y, ⟨r, v, g, t, o, bs, qs, ls, ws⟩, rfl, ⟨.slice AB bs.length cB, .slice AQ qs.length cQ, .slice AL ls.length cL, .slice AW ws.length cW, rfl, ⟨AB, cB, rfl, RB9⟩, ⟨AQ, cQ, rfl, (RP.ext (zM (zM (zM E_y GL) E_k) GW)).ext E9⟩, ⟨AL, cL, rfl, (RL.ext (zM E_k GW)).ext E9⟩, ⟨AW, cW, rfl, RW.ext E9⟩⟩, ?_⟩
     exact ⟨⟨⟨⟨r1, by show r ≤ 6; omega⟩, ⟨v1, by show v ≤ 6; omega⟩, ⟨g1, by show g ≤ 2; omega⟩, ⟨by show 1 ≤ t; omega, t2⟩, ⟨o1, by show o ≤ t; omega⟩, by show bs.length ≤ 4; omega, K3, by show qs.length ≤ 8; omega, L3, by show ls.length ≤ 4; omega, N3, by show (ws.length : Int) = v; omega, M3⟩, by show r ≤ size; omega, by show v ≤ size; omega, by show bs.length ≤ 3; omega, by show (qs.length : Int) ≤ pins; omega, N1⟩, capM_of hcQ hcL⟩
end
end Go.Proofs.Ythphpbdmbmiaiaa
namespace Go.Proofs.Ythphpbdmbmiaiaa
open Go Go.HL Go.Proofs Go.Wx Go.Rd
section
variable [Lvl]
set_option maxRecDepth 100000
end
end Go.Proofs.Ythphpbdmbmiaiaa
namespace Go.HL
open Go Go.Wx Go.RowKit
def lawK (t : Nat) (h0 : AH) : Post
 | .normal, S, D, L, h => D = [] ∧ (Valid h L → Ext h0 (wl h L)) ∧ S t = .bool true
 | .ret, S, D, L, h => D = [] ∧ (Valid h L → Ext h0 (wl h L)) ∧ S t = .bool true
 | _, _, _, _, _ => False
theorem below_of {w w' : World} (se : SameEnv w w') (e : Ext (absH w.heap) (absH w'.heap)) : Below w.heap.size w w' := by
 have hb : ∀ k, k < w.heap.size → w'.heap[k]? = w.heap[k]? := by
  intro k hk
  have h1 : absH w.heap k = some w.heap[k] := Array.getElem?_eq_getElem hk
  have h2 : w'.heap[k]? = some w.heap[k] := e k _ h1
  rw [h2]
  exact (Array.getElem?_eq_getElem hk).symm
 refine ⟨se.os, se.tape, se.output, ?_, hb⟩
 rcases Nat.lt_or_ge w'.heap.size w.heap.size with h1 | h1
 ·have h2 := hb w'.heap.size h1
  rw [Array.getElem?_eq_getElem h1] at h2
  simp at h2
 ·exact h1
variable [Lvl]
end Go.HL
namespace Go.HL
open Go Go.Wx Go.RowKit Go.Conc Go.ConcN
def RunsTrue (P : Program) (f : FuncId) (args : Array Value) (w : World) : Prop :=
 ∃ M last o w' t', runNT P (M + 1) (solo (G (Frame.enter P f args .normal) []) w) #[] = (.ended o w', t') ∧ runN P M (solo (G (Frame.enter P f args .normal) []) w) = .next last ∧ step P last = .ended o w' ∧
  Go.Conc.Good P (fun v W' => v = .bool true ∧ Below w.heap.size w W') last o w' t'
theorem runs_body {P : Program} {f : FuncId} {fn : Func} {c : Code} {args : Array Value} {n t : Nat} {w : World} (hf : P.funcs[f]? = some fn) (hb : fn.body = some c) (hn : fn.ntmps = n) (ha : Nat.ble args.size n = true) (hr : fn.results = #[.tmp t]) (ht : Nat.blt t n = true) (hi : P.inits.idxOf? f = none)
  (x : ∀ h, h = absH w.heap → @xp ⟨true, none, none⟩ P n none c (lawK t h) (argS args) [] [] h) :
  RunsTrue P f args w := by
 letI : Lvl := ⟨true, none, none⟩
 have he : Frame.enter P f args .normal = mk { (default : Frame) with fn := f, kind := .normal, roundOf := none } n (argS args) [] [.code c] := by
  simp [Frame.enter, mk, hf, hb, hn, enter_tmps n args (Nat.le_of_ble_eq_true ha)]
 have hres : ∀ (S : Sl) (w' : World), S t = .bool true → results fn (arr n S) = .pure (.bool true) := by
  intro S w' hs
  unfold results
  rw [hr, List.mapM_toArray]
  have e1 : (arr n S).getD t undef = .bool true := by rw [arr_getD, if_pos (Nat.lt_of_lt_of_le (Nat.lt_succ_self t) (Nat.le_of_ble_eq_true ht)), hs]
  show Sem.pure ((arr n S).getD t undef) = _
  rw [e1]
 have x1 := x _ rfl (absH w.heap) (by have := Fits.nil (valid_nil (Fin.abs w.heap)); rw [wl_nil] at this; exact this) { (default : Frame) with fn := f, kind := .normal, roundOf := none } rfl [] []
 have x2 : Rch P (fun fr cs' H => cs' = [] ∧ fr.mode = .returning ∧ fr.defers = [] ∧ fr.kind = .normal ∧ fr.fn = f ∧ (∃ S, fr.tmps = arr n S ∧ S t = .bool true) ∧ Ext (absH w.heap) H) (mk { (default : Frame) with fn := f, kind := .normal, roundOf := none } n (argS args) [] [.code c]) [] (absH w.heap) := by
  refine x1.bind ?_
  rintro fr cs' H ⟨rfl, e, S', D', L', h', V', kk, a⟩
  cases e with
  | normal =>
   obtain ⟨rfl, ex, hs⟩ := kk
   have a' : fr = mk { (default : Frame) with fn := f, kind := .normal, roundOf := none } n S' [] [] := a
   subst a'
   have hH : H = wl h' L' := by rw [V'.eq]; exact hun_nil _
   subst hH
   refine .ctl (fr' := { mk { (default : Frame) with fn := f, kind := .normal, roundOf := none } n S' [] [] with mode := .returning }) (cs' := []) (fun w => by simp [stepG, stepG.exec, mk]) (.done ⟨rfl, rfl, rfl, rfl, rfl, ⟨S', rfl, hs⟩, ex V'.valid⟩)
  | ret =>
   obtain ⟨rfl, ex, hs⟩ := kk
   obtain ⟨todo, rfl⟩ := a.1 rfl
   have hH : H = wl h' L' := by rw [V'.eq]; exact hun_nil _
   subst hH
   exact .done ⟨rfl, rfl, rfl, rfl, rfl, ⟨S', rfl, hs⟩, ex V'.valid⟩
  | _ => exact kk.elim
 unfold RunsTrue
 rw [he]
 refine x2.ends rfl rfl ?_
 rintro fr cs h w' ⟨rfl, hm, hd, hk, hfn, ⟨S, htm, hs⟩, ex⟩ se rfl
 have hr1 := hres S w' hs
 have hru : (results fn fr.tmps).runT P w' #[] = (.ok (.bool true) w', #[]) := by rw [htm, hr1]; rfl
 have hf' : P.funcs[fr.fn]? = some fn := by rw [hfn]; exact hf
 have hi' : P.inits.idxOf? fr.fn = none := by rw [hfn]; exact hi
 have h1 : stepG P true (G fr []) w' = unwind P true fr [] none w' := by
  simp [stepG, stepG.exec, hm]
 have h2 : unwind P true fr [] none w' = GStep.after (seen P fr.fn #[]) (.ended (.done (.bool true)) w') := by
  unfold unwind
  rw [hd]
  simp only [hm, hf', hru]
  unfold doReturn
  simp only [hk, hi']
  rfl
 refine ⟨rfl, .bool true, seen P fr.fn #[], ?_, fun e he => ?_, rfl, below_of se ex⟩
 ·rw [h1, h2]
  simp [GStep.after]
 ·simp [seen] at he
end Go.HL
namespace Go.Rd
open Go Go.HL Go.Wx
variable [Lvl]
theorem MOK.pins {m : MachP} (M : MOK m) : ∀ p ∈ m.pins, 0 ≤ p.lever ∧ 0 ≤ p.rod := fun p hp => ⟨(M.pin p hp).2.1.1, (M.pin p hp).1.1⟩
theorem MOK.cap {m : MachP} (M : MOK m) {ps : List PinP} {ls : List LinkP} (hp : ps.length ≤ 8) (hl : ls.length ≤ 4)
  (h1 : ∀ p ∈ ps, (0 ≤ p.rod ∧ p.rod < m.rods) ∧ (0 ≤ p.lever ∧ p.lever < m.levers) ∧ (0 ≤ p.lag ∧ p.lag ≤ m.travel))
  (h2 : ∀ l ∈ ls, (0 ≤ l.frm ∧ l.frm < m.rods) ∧ (0 ≤ l.to ∧ l.to < m.rods) ∧ l.frm ≠ l.to ∧ (-1 ≤ l.reg ∧ l.reg < m.regs) ∧ (1 ≤ l.lag ∧ l.lag ≤ m.travel)) : MOK { m with pins := ps, links := ls } :=
 ⟨M.rods, M.levers, M.regs, M.travel, M.opn, M.bl, M.btn, hp, h1, hl, h2, M.wl, M.wt⟩
end Go.Rd
namespace Go.HL
open Go
variable [Lvl]
section
variable {P : Program} {n : Nat} {d : Option Tmp} {ty : TypeId} {ps : String} {af : Array Edge} {S : Sl}
end
end Go.HL
namespace Go.Proofs.Ythphpbdmbmiaiaa
open Go Go.HL Go.Proofs Go.Wx Go.Rd
section
variable [Lvl]
set_option maxRecDepth 100000
end
end Go.Proofs.Ythphpbdmbmiaiaa
namespace Go.Proofs.Ythphpbdmbmiaiaa
open Go Go.HL Go.Proofs Go.Wx Go.Rd
section
variable [Lvl]
set_option maxRecDepth 100000
end
end Go.Proofs.Ythphpbdmbmiaiaa
namespace Go.Proofs.Ythphpbdmbmiaiaa
open Go Go.HL Go.Proofs Go.Wx Go.Rd
section
variable [Lvl]
set_option maxRecDepth 100000
end
end Go.Proofs.Ythphpbdmbmiaiaa
namespace Go.Proofs.Ythphpbdmbmiaiaa
open Go Go.HL Go.Proofs Go.Wx Go.Rd
section
variable [Lvl]
set_option maxRecDepth 100000
end
end Go.Proofs.Ythphpbdmbmiaiaa
namespace Go.Rd
open Go Go.HL Go.Wx
variable [Lvl]
def pressR (bs : List Int) (depth : Int) (hb : List Int) (t : List Int) : List Int := hb.foldl (fun t b => t.set (bs.getD b.toNat 0).toNat depth) t
def sweepN (m : MachP) (a : HandP) (t : List Int) : Nat → List Int
 | 0 => t
 | k + 1 => linkM a.on m.links (sweepN m a t k)
def startR (m : MachP) (a : HandP) (depth : Int) : List Int := pressR m.buttons depth a.buttons (List.replicate m.rods.toNat 0)
theorem pressR_take {bs : List Int} {depth : Int} {hb t : List Int} {k : Nat} (h : k < hb.length) : pressR bs depth (hb.take (k + 1)) t = (pressR bs depth (hb.take k) t).set (bs.getD hb[k].toNat 0).toNat depth := by
 unfold pressR
 rw [List.take_add_one, List.getElem?_eq_getElem h, Option.toList_some, List.foldl_append]
 rfl
theorem pressR_len (bs : List Int) (depth : Int) : ∀ (hb t : List Int), (pressR bs depth hb t).length = t.length
 | [], _ => rfl
 | x :: hb, t => by
  show (pressR bs depth hb (t.set _ depth)).length = _
  rw [pressR_len bs depth hb, List.length_set]
theorem linkR_len (on : List Int) (ls : List LinkP) (t : List Int) : (linkM on ls t).length = t.length := (foldl_inc (link_inc on) ls t).1.symm
theorem sweep_len (m : MachP) (a : HandP) (t : List Int) : ∀ k, (sweepN m a t k).length = t.length
 | 0 => rfl
 | k + 1 => by rw [sweepN, linkR_len, sweep_len m a t k]
theorem start_len (m : MachP) (a : HandP) (depth : Int) : (startR m a depth).length = m.rods.toNat := by rw [startR, pressR_len, List.length_replicate]
theorem set_getD (t : List Int) (i : Nat) (v : Int) (j : Nat) : (t.set i v).getD j 0 = if j = i ∧ i < t.length then v else t.getD j 0 := by
 simp only [List.getD_eq_getElem?_getD, List.getElem?_set]
 by_cases h : i = j
 ·subst h
  by_cases hl : i < t.length
  ·simp [hl]
  ·simp [hl]
 ·have h' : ¬ j = i := fun e => h e.symm
  simp [h, h']
theorem repl_getD (n j : Nat) : (List.replicate n (0 : Int)).getD j 0 = 0 := by
 rw [List.getD_eq_getElem?_getD, List.getElem?_replicate]
 split <;> rfl
def In0 (f : Int → Int) (t : List Int) : Prop := ∀ j : Nat, 0 ≤ t.getD j 0 ∧ t.getD j 0 ≤ f j
theorem press_in {m : MachP} {a : HandP} {depth : Int} {f : Int → Int} (F : Fit m a) (hd : 0 ≤ depth) (c : Clo m a depth f) : ∀ (hb t : List Int), (∀ b ∈ hb, b ∈ a.buttons) → In0 f t → In0 f (pressR m.buttons depth hb t)
 | [], _, _, h => h
 | x :: hb, t, hs, h => by
  refine press_in F hd c hb _ (fun b h => hs b (List.mem_cons_of_mem _ h)) fun j => ?_
  rw [set_getD]
  split
  ·rename_i e
   have hx := hs x (List.mem_cons_self ..)
   have h1 := c.press x hx
   have h2 := getD_mem_ge F.btn (i := x.toNat) (by have := F.hb x hx; omega)
   rw [e.1, Int.toNat_of_nonneg h2.1]
   exact ⟨hd, h1⟩
  ·exact h j
theorem links_in {m : MachP} {a : HandP} {depth : Int} {f : Int → Int} (F : Fit m a) (c : Clo m a depth f) : ∀ (ls : List LinkP) (t : List Int), (∀ l ∈ ls, l ∈ m.links) → In0 f t → In0 f (linkM a.on ls t)
 | [], _, _, h => h
 | x :: ls, t, hs, h => by
  refine links_in F c ls _ (fun b h => hs b (List.mem_cons_of_mem _ h)) ?_
  dsimp only
  split
  ·rename_i ha
   have hx := hs x (List.mem_cons_self ..)
   have h1 := c.link x hx ha
   obtain ⟨⟨f0, _⟩, ⟨t0, _⟩, _⟩ := F.link x hx
   intro j
   rw [rise_getD]
   split
   ·rename_i e
    have h3 := (h x.frm.toNat).2
    have h4 := h x.to.toNat
    rw [Int.toNat_of_nonneg f0] at h3
    rw [e.1]
    rw [Int.toNat_of_nonneg t0] at h4 ⊢
    exact ⟨Int.le_trans h4.1 (Int.le_max_left _ _), Int.max_le.2 ⟨h4.2, by omega⟩⟩
   ·exact h j
  ·exact h
theorem start_in {m : MachP} {a : HandP} {depth : Int} {f : Int → Int} (F : Fit m a) (hd : 0 ≤ depth) (c : Clo m a depth f) : In0 f (startR m a depth) :=
 press_in F hd c _ _ (fun _ h => h) fun j => by rw [repl_getD]; exact ⟨Int.le_refl _, c.zero j (by omega)⟩
theorem sweep_in {m : MachP} {a : HandP} {depth : Int} {f : Int → Int} {t : List Int} (F : Fit m a) (c : Clo m a depth f) (h : In0 f t) : ∀ k, In0 f (sweepN m a t k)
 | 0 => h
 | k + 1 => links_in F c _ _ (fun _ h => h) (sweep_in F c h k)
theorem press_reach {bs : List Int} {depth : Int} {b : Int} : ∀ (hb t : List Int), b ∈ hb → (bs.getD b.toNat 0).toNat < t.length → (pressR bs depth hb t).getD (bs.getD b.toNat 0).toNat 0 = depth := by
 have keep : ∀ (hb t : List Int) (r : Nat), r < t.length → t.getD r 0 = depth → (pressR bs depth hb t).getD r 0 = depth := by
  intro hb
  induction hb with
  | nil => intro t r _ h; exact h
  | cons x hb ih =>
   intro t r hr h
   refine ih _ r (by rw [List.length_set]; exact hr) ?_
   rw [set_getD]
   split
   ·rfl
   ·exact h
 intro hb
 induction hb with
 | nil => intro t h; exact absurd h List.not_mem_nil
 | cons x hb ih =>
  intro t h hl
  rcases List.mem_cons.1 h with rfl | h
  ·refine keep hb _ _ (by rw [List.length_set]; exact hl) ?_
   rw [set_getD, if_pos ⟨rfl, hl⟩]
  ·exact ih _ h (by rw [List.length_set]; exact hl)
theorem link_reach {on : List Int} {l : LinkP} (ha : active on l = true) : ∀ (ls : List LinkP) (t : List Int), l ∈ ls → l.to.toNat < t.length → t.getD l.frm.toNat 0 - l.lag ≤ (linkM on ls t).getD l.to.toNat 0
 | [], _, h, _ => absurd h List.not_mem_nil
 | x :: ls, t, h, hl => by
  have i1 := link_inc on t x
  rcases List.mem_cons.1 h with rfl | h
  ·have i2 := (foldl_inc (link_inc on) ls (if active on l then rise t l.to.toNat (t.getD l.frm.toNat 0 - l.lag) else t)).2 l.to.toNat
   refine Int.le_trans ?_ i2
   rw [if_pos ha, rise_getD, if_pos ⟨rfl, hl⟩]
   exact Int.le_max_right _ _
  ·refine Int.le_trans ?_ (link_reach ha ls (if active on x then rise t x.to.toNat (t.getD x.frm.toNat 0 - x.lag) else t) h (by rw [← i1.1]; exact hl))
   have := i1.2 l.frm.toNat
   omega
theorem count_le {α : Type} {p q : α → Bool} : ∀ {l : List α}, (∀ x ∈ l, p x = true → q x = true) → l.countP p ≤ l.countP q
 | [], _ => Nat.le_refl _
 | x :: l, h => by
  have ih := count_le (l := l) fun y hy => h y (List.mem_cons_of_mem _ hy)
  have hx := h x (List.mem_cons_self ..)
  rw [List.countP_cons, List.countP_cons]
  by_cases e : p x = true
  ·rw [if_pos e, if_pos (hx e)]; omega
  ·rw [if_neg e]; omega
theorem count_lt {α : Type} {p q : α → Bool} {z : α} (hp : p z = false) (hq : q z = true) : ∀ {l : List α}, (∀ x ∈ l, p x = true → q x = true) → z ∈ l → l.countP p < l.countP q
 | x :: l, h, hz => by
  have hl := fun y hy => h y (List.mem_cons_of_mem _ hy)
  rw [List.countP_cons, List.countP_cons]
  rcases List.mem_cons.1 hz with rfl | hz
  ·have := count_le hl
   rw [if_neg (by rw [hp]; decide), if_pos hq]
   omega
  ·have ih := count_lt hp hq hl hz
   have hx := h x (List.mem_cons_self ..)
   by_cases e : p x = true
   ·rw [if_pos e, if_pos (hx e)]; omega
   ·rw [if_neg e]; omega
theorem most_val {m : MachP} {a : HandP} {r : Int} {t : Int → Int} : ∀ {k : Nat}, k ≤ m.links.length → mostN m a r t k = downN m a r a.buttons.length ∨ ∃ (i : Nat) (h : i < m.links.length), m.links[i].to = r ∧ active a.on m.links[i] = true ∧ mostN m a r t k = t m.links[i].frm - m.links[i].lag
 | 0, _ => .inl rfl
 | k + 1, hk => by
  have ih := most_val (m := m) (a := a) (r := r) (t := t) (k := k) (by omega)
  unfold mostN
  rw [List.getElem?_eq_getElem (by omega : k < m.links.length)]
  simp only
  split
  ·rename_i e
   rcases Int.le_total (mostN m a r t k) (t m.links[k].frm - m.links[k].lag) with h | h
   ·rw [Int.max_eq_right h]
    exact .inr ⟨k, by omega, e.1, e.2, rfl⟩
   ·rw [Int.max_eq_left h]
    exact ih
  ·exact ih
def rankF (m : MachP) (f : Int → Int) (r : Int) : Nat := (List.range m.rods.toNat).countP fun j : Nat => decide (f r < f (j : Int))
theorem sweep_ge {m : MachP} {a : HandP} (M : MOK m) (F : Fit m a) : ∀ (k : Nat) (r : Int), 0 ≤ r → r < m.rods → rankF m (turnF m a m.travel) r ≤ k → turnF m a m.travel r ≤ (sweepN m a (startR m a m.travel) k).getD r.toNat 0
 | k, r, h0, h1, hk => by
  have tr := M.travel
  have td : 0 ≤ m.travel := by omega
  have hT := turn_most F td h0
  have mono : ∀ k, (startR m a m.travel).getD r.toNat 0 ≤ (sweepN m a (startR m a m.travel) k).getD r.toNat 0 := by
   intro k
   induction k with
   | zero => exact Int.le_refl _
   | succ k ih => exact Int.le_trans ih ((foldl_inc (link_inc a.on) m.links (sweepN m a (startR m a m.travel) k)).2 r.toNat)
  rcases most_val (m := m) (a := a) (r := r) (t := turnF m a m.travel) (Nat.le_refl _) with e | ⟨i, hi, e1, e2, e3⟩
  ·rcases down_val (m := m) (a := a) (r := r) (Nat.le_refl _) with ⟨h, _⟩ | ⟨h, i, hi, _, e'⟩
   ·rw [hT, e, h]
    exact ((sweep_in F (turned_clo F td) (start_in F td (turned_clo F td)) k) r.toNat).1
   ·refine Int.le_trans ?_ (mono k)
    have hp := press_reach (bs := m.buttons) (depth := m.travel) a.buttons (List.replicate m.rods.toNat 0) (List.getElem_mem hi) (by rw [e', List.length_replicate]; omega)
    rw [e'] at hp
    rw [hT, e, h]
    exact Int.le_of_eq hp.symm
  ·obtain ⟨⟨f0, f1⟩, ⟨t0, t1⟩, ne, _, lg⟩ := M.link _ (List.getElem_mem hi)
   have hlt : turnF m a m.travel r < turnF m a m.travel m.links[i].frm := by omega
   have hrk : rankF m (turnF m a m.travel) m.links[i].frm < rankF m (turnF m a m.travel) r := by
    refine count_lt (z := m.links[i].frm.toNat) ?_ ?_ (fun x _ h => ?_) (List.mem_range.2 (by omega))
    ·rw [Int.toNat_of_nonneg f0]; exact decide_eq_false (Int.lt_irrefl _)
    ·rw [Int.toNat_of_nonneg f0]; exact decide_eq_true hlt
    ·have := of_decide_eq_true h
     exact decide_eq_true (by omega)
   cases k with
   | zero => omega
   | succ k =>
    have ih := sweep_ge M F k m.links[i].frm f0 f1 (by omega)
    have hl := link_reach e2 m.links (sweepN m a (startR m a m.travel) k) (List.getElem_mem hi) (by rw [sweep_len, start_len]; omega)
    rw [e1] at hl
    show _ ≤ (linkM a.on m.links (sweepN m a (startR m a m.travel) k)).getD r.toNat 0
    omega
def turnsR (m : MachP) (a : HandP) (depth : Int) : List Int := sweepN m a (startR m a depth) m.rods.toNat
theorem turnsR_len (m : MachP) (a : HandP) (depth : Int) : (turnsR m a depth).length = m.rods.toNat := by rw [turnsR, sweep_len, start_len]
theorem turnsR_getD {m : MachP} {a : HandP} (M : MOK m) (F : Fit m a) {r : Int} (h0 : 0 ≤ r) (h1 : r < m.rods) : (turnsR m a m.travel).getD r.toNat 0 = turnF m a m.travel r := by
 have tr := M.travel
 have td : 0 ≤ m.travel := by omega
 have u := (sweep_in F (turned_clo F td) (start_in F td (turned_clo F td)) m.rods.toNat) r.toNat
 rw [Int.toNat_of_nonneg h0] at u
 refine Int.le_antisymm u.2 (sweep_ge M F m.rods.toNat r h0 h1 ?_)
 have := List.countP_le_length (p := fun j : Nat => decide (turnF m a m.travel r < turnF m a m.travel (j : Int))) (l := List.range m.rods.toNat)
 rw [List.length_range] at this
 exact this
theorem pinsR {t t' : List Int} : ∀ (ps : List PinP) (l : List Int), (∀ p ∈ ps, t.getD p.rod.toNat 0 = t'.getD p.rod.toNat 0) → ps.foldl (pinS t) l = ps.foldl (pinS t') l
 | [], _, _ => rfl
 | p :: ps, l, h => by
  rw [List.foldl_cons, List.foldl_cons, show pinS t l p = pinS t' l p by unfold pinS; rw [h p (List.mem_cons_self ..)]]
  exact pinsR ps _ fun q hq => h q (List.mem_cons_of_mem _ hq)
theorem liftsR {m : MachP} {a : HandP} (M : MOK m) (F : Fit m a) : liftedM m (turnsR m a m.travel) = liftedM m (turnedM m a m.travel) :=
 pinsR m.pins _ fun p hp => turnsR_getD M F (M.pin p hp).1.1 (M.pin p hp).1.2
theorem turnsR_bd {m : MachP} {a : HandP} {d : Int} (F : Fit m a) (hd : 0 ≤ d) (k : Nat) : Bd d (sweepN m a (startR m a d) k) := fun j => by
 have h := (sweep_in F (turned_clo F hd) (start_in F hd (turned_clo F hd)) k) j
 exact ⟨h.1, Int.le_trans h.2 (turnF_bd F hd j).2⟩
end Go.Rd
namespace Go.Proofs.Ythphpbdmbmiaiaa
open Go Go.HL Go.Proofs Go.Wx Go.Rd
section
variable [Lvl]
set_option maxRecDepth 100000
theorem among_ok (n lo hi : Int) (h : AH) : FnT Try.prog 89 #[.int .i64 n, .int .i64 lo, .int .i64 hi] h (fun v _ => v = .bool (inM n lo hi)) := by
 refine wM Try.func89 rfl Try.ntmps89 rfl ?_
 refine qD ?_
 refine qB rfl ?_
 refine qA (qE (v := .bool _) rfl) ?_
 refine qD ?_
 refine qB rfl ?_
 refine qA (qC (v := .int .i64 _) rfl) ?_
 refine qA (qC (v := .int .i64 _) rfl) ?_
 refine qA (qL (v := .bool _) rfl) ?_
 refine qA (qC (v := .bool _) rfl) ?_
 refine guard_case rfl (fun hg1 => ?_) (fun hg1 => ?_)
 ·replace hg1 : _ = true := hg1
  refine qA (qC (v := .int .i64 _) rfl) ?_
  refine qG rfl hg1 ?_
  refine qA (qC (v := .int .i64 _) rfl) ?_
  refine qG rfl hg1 ?_
  refine qA (qL (v := .bool _) rfl) ?_
  refine qA (wI rfl hg1 (v := .bool _) rfl) ?_
  refine qA (qE (v := .bool _) rfl) ?_
  refine qV ?_
  refine qN (vs := [_]) Try.results89 ⟨qM rfl rfl, trivial⟩ fun V => ?_
  exact ⟨(qQ V), boolE (by simp_all [inM] <;> omega)⟩
 ·replace hg1 : _ = false := hg1
  refine qJ rfl hg1 ?_
  refine qJ rfl hg1 ?_
  refine qA (wN rfl hg1 (v := .bool _) rfl) ?_
  refine qA (qE (v := .bool _) rfl) ?_
  refine qV ?_
  refine qN (vs := [_]) Try.results89 ⟨qM rfl rfl, trivial⟩ fun V => ?_
  exact ⟨(qQ V), boolE (by simp_all [inM] <;> omega)⟩
end
end Go.Proofs.Ythphpbdmbmiaiaa
namespace Go.Proofs.Ythphpbdmbmiaiaa
open Go Go.HL Go.Proofs Go.Wx Go.Rd
section
variable [Lvl]
set_option maxRecDepth 100000
end
end Go.Proofs.Ythphpbdmbmiaiaa
namespace Go.Proofs.Ythphpbdmbmiaiaa
open Go Go.HL Go.Proofs Go.Wx Go.Rd
section
variable [Lvl]
set_option maxRecDepth 100000
theorem sounds_bit {m : MachP} {a : HandP} {d : Int} {v : Nat} (hv : (v : Int) < m.levers) : (soundsM m a d).testBit v = decide (m.opn ≤ liftF m a d v) := by
 unfold soundsM liftF
 rw [maskOf_bit, decide_eq_true (by omega : v < m.levers.toNat), Bool.true_and, Int.toNat_natCast]
end
end Go.Proofs.Ythphpbdmbmiaiaa
namespace Go.Proofs.Ythphpbdmbmiaiaa
open Go Go.HL Go.Proofs Go.Wx Go.Rd
section
variable [Lvl]
set_option maxRecDepth 100000
theorem wrL_set {t : List Int} {i o : Nat} {x : Int} (ho : o = i) : wrL (tV t) o [.int .i64 x] = tV (t.set i x) := by
 subst ho
 simp [wrL, List.map_set]
theorem hasR_ok (l : List Int) (n : Int) (A : Option Addr) (c : Nat) (h : AH) (R : Row h 1 intC A l) (hl : l.length < 2 ^ 40) :
  FnT Try.prog 116 #[.slice A l.length c, .int .i64 n] h (fun v _ => v = .bool (l.contains n)) := by
 refine wM Try.func116 rfl Try.ntmps116 rfl ?_
 refine qD ?_
 refine qB rfl ?_
 refine qA (qE (v := .bool _) rfl) ?_
 refine qD ?_
 refine qD ?_
 refine qB rfl ?_
 refine qA (qE (v := .int .i64 _) rfl) ?_
 refine qP ?_
 refine xp_loopB [4, 5, 6, 7, 8, 9, 10, 11, 12, 13, 14, 15, 16, 17] 0 (α := Nat) (fun k => [(5, .int .i64 k)]) (fun k => _) (fun k h_k => k ≤ l.length ∧ ∀ x ∈ l.take k, x ≠ n) (fun k => l.length - k) (0) ⟨rfl, trivial⟩ (rfl) (⟨Nat.zero_le _, fun x hx => by simp at hx⟩) ?_
 rintro k T1 h_k E_k J_k
 refine qS [] rfl ?_
 obtain ⟨K1, K2⟩ := J_k
 refine qD ?_
 refine qD ?_
 refine qB rfl ?_
 refine qA (qC (v := .int .i64 _) rfl) ?_
 refine qA (qC (v := .slice _ _ _) rfl) ?_
 refine qA (wP rfl rfl) ?_
 refine qA (qL (v := .bool _) rfl) ?_
 refine qR rfl (fun hk => ?_) (fun hk => ?_)
 ·skip
  have hkl : k < l.length := ltI hk
  obtain ⟨g, off, hA, hc⟩ := (R.ext E_k).at (by omega) hkl
  refine qO ?_
  refine qD ?_
  refine qP ?_
  refine qD ?_
  refine qB rfl ?_
  refine qA (qC (v := .slice _ _ _) rfl) ?_
  refine qA (qC (v := .int .i64 _) rfl) ?_
  refine qA (wO rfl hA rfl rfl rfl (by omega) (by omega)) ?_
  refine wT (v := .int .i64 _) rfl rfl ((hc) 0 _ rfl) ?_
  refine qA (qC (v := .int .i64 _) rfl) ?_
  refine qA (qL (v := .bool _) rfl) ?_
  refine qR rfl (fun he => ?_) (fun he => ?_)
  ·skip
   have he' : l[k] = n := by simpa using he
   refine qD ?_
   refine qB rfl ?_
   refine qA (qE (v := .bool _) rfl) ?_
   refine qV ?_
   refine qN (vs := [_]) Try.results116 ⟨qM rfl rfl, trivial⟩ fun V => ?_
   exact ⟨(zM E_k (qQ V)), boolE (by rw [eq_comm, List.contains_iff_mem, ← he']; exact List.getElem_mem hkl)⟩
  ·skip
   have he' : l[k] ≠ n := by simpa using he
   refine qO ?_
   refine qB rfl ?_
   refine qA (qC (v := .int .i64 _) rfl) ?_
   refine qA (qT rfl (by omega)) ?_
   refine qA (qE (v := .int .i64 _) rfl) ?_
   refine ⟨k + 1, ⟨rfl, trivial⟩, rfl, rfl, E_k, fun h3 E3 => ⟨hkl, by rw [take_snoc hkl]; exact mem_one K2 he'⟩, by first | omega | (dsimp only; omega), ?_⟩
   repeat (first | exact qY _ _ _ | refine wG (by decide) ?_ | refine qX rfl ?_ | refine wH rfl ?_)
 ·skip
  have hke : k = l.length := by have := geI hk; omega
  subst hke
  rw [List.take_length] at K2
  refine wV ?_
  refine qD ?_
  refine qB rfl ?_
  refine qA (qE (v := .bool _) rfl) ?_
  refine qV ?_
  refine qN (vs := [_]) Try.results116 ⟨qM rfl rfl, trivial⟩ fun V => ?_
  exact ⟨(zM E_k (qQ V)), boolE (by rw [eq_comm, ← Bool.not_eq_true, List.contains_iff_mem]; exact fun hm => K2 n hm rfl)⟩
theorem turnsR_ok (m : MachP) (M : MOK m) (a : HandP) (F : Fit m a) (depth : Int) (hd : 0 ≤ depth ∧ depth ≤ 12) (AB AQ AL AW HA OA : Option Addr) (cB cQ cL cW cH cO : Nat) (h : AH) (RM : MachR h AB AQ AL AW m) (RH : HandR h HA OA a) :
  FnT Try.prog 84 #[machV AB AQ AL AW cB cQ cL cW m, handV HA OA cH cO a, .int .i64 depth] h (fun v h' => SlR h' 1 intC (turnsR m a depth) v) := by
 have hrd := M.rods
 have hbl := F.bl
 have hll := F.ll
 have hhl := F.hl
 have hol := F.ol
 have hle : m.rods = ((m.rods.toNat : Nat) : Int) := by omega
 refine wM Try.func84 rfl Try.ntmps84 rfl ?_
 refine qD ?_
 refine qB rfl ?_
 refine zE (v := machV AB AQ AL AW cB cQ cL cW m) (cs := [_, _, _, _, _, _, _, _, _]) rfl rfl fun b2 hb2 => ?_
 refine qK [_] rfl ?_
 refine zE (v := handV HA OA cH cO a) (cs := [_, _]) rfl rfl fun b3 hb3 => ?_
 refine qK [_, _] rfl ?_
 refine qA (qE (v := .slice _ _ _) rfl) ?_
 refine qD ?_
 refine qB rfl ?_
 refine qA (qF rfl rfl rfl rfl 0 rfl) ?_
 refine qH 0 (v := .int .i64 _) rfl rfl rfl rfl ?_
 refine op_makeSlice (len := m.rods.toNat) (cap := m.rods.toNat) (zc := [.int .i64 0]) rfl rfl hle hle rfl rfl rfl rfl rfl (by omega) (by omega) rfl fun bl hbl => ?_
 refine qK [_, _, _] rfl ?_
 refine qK [_, _, some (bl, .cells (tV (List.replicate m.rods.toNat 0)).toArray 3 (0, 0))] (by rw [← mk_zero]; rfl) ?_
 refine qA (qE (v := .slice _ _ _) rfl) ?_
 refine qD ?_
 refine qD ?_
 refine qB rfl ?_
 refine qA (qE (v := .int .i64 _) rfl) ?_
 refine qP ?_
 refine xp_loopL [8, 15, 16, 17, 18, 19, 20, 21, 22, 23, 24, 25, 26, 27, 28, 29, 30, 31, 32, 33] 3 (α := Nat) (fun k => [(8, .int .i64 k)]) (fun k L => L.set 2 (some (bl, .cells (tV (pressR m.buttons depth (a.buttons.take k) (List.replicate m.rods.toNat 0))).toArray 3 (0, 0)))) (fun k h_k => k ≤ a.buttons.length) (fun k => a.buttons.length - k) (0) ⟨rfl, trivial⟩ (rfl) (Nat.zero_le _) ?_
 rintro k T1 h_k E_k J_k
 refine qS [_, _, _] rfl ?_
 refine qD ?_
 refine qD ?_
 refine qB rfl ?_
 refine qA (qC (v := .int .i64 _) rfl) ?_
 refine qA (qF rfl rfl rfl rfl 0 rfl) ?_
 refine qH 1 (v := .slice _ _ _) rfl rfl rfl rfl ?_
 refine qA (wP rfl rfl) ?_
 refine qA (qL (v := .bool _) rfl) ?_
 refine qR rfl (fun hk => ?_) (fun hk => ?_)
 ·skip
  have hkl : k < a.buttons.length := ltI hk
  obtain ⟨g, off, hA, hc⟩ := (RH.b.ext E_k).at (by omega) hkl
  have hbk := F.hb _ (List.getElem_mem hkl)
  have hbk2 : a.buttons[k].toNat < m.buttons.length := by omega
  obtain ⟨g2, off2, hA2, hc2⟩ := (RM.b.ext E_k).at (by omega) hbk2
  have hbt := M.btn _ (List.getElem_mem hbk2)
  have hP6 : (tV (pressR m.buttons depth (a.buttons.take k) (List.replicate m.rods.toNat 0))).length = m.rods.toNat := by rw [List.length_map, pressR_len, List.length_replicate]
  refine qO ?_
  refine qD ?_
  refine qP ?_
  refine xp_dw [] rfl rfl rfl ?_
  refine qI (i := 0) rfl (by decide +kernel) (qC (v := .slice _ _ _) rfl) ?_
  refine qI (i := 1) rfl (by decide +kernel) (qF rfl rfl rfl rfl 5 rfl) ?_
  refine qZ (i := 2) rfl (by decide +kernel) ?_
  refine qH 0 (v := .slice _ _ _) rfl rfl rfl rfl ?_
  refine qI (i := 3) rfl (by decide +kernel) (qF rfl rfl rfl rfl 0 rfl) ?_
  refine qZ (i := 4) rfl (by decide +kernel) ?_
  refine qH 1 (v := .slice _ _ _) rfl rfl rfl rfl ?_
  refine qI (i := 5) rfl (by decide +kernel) (qC (v := .int .i64 _) rfl) ?_
  refine qI (i := 6) rfl (by decide +kernel) (wO rfl hA rfl rfl rfl (by omega) (by omega)) ?_
  refine qZ (i := 7) rfl (by decide +kernel) ?_
  refine wT (v := .int .i64 _) rfl rfl ((hc) 0 _ rfl) ?_
  refine qI (i := 8) rfl (by decide +kernel) (wO rfl hA2 rfl rfl rfl (by omega) (by omega)) ?_
  refine qZ (i := 9) rfl (by decide +kernel) ?_
  refine wT (v := .int .i64 _) rfl rfl ((hc2) 0 _ rfl) ?_
  refine qI (i := 10) rfl (by decide +kernel) (qC (v := .int .i64 _) rfl) ?_
  refine qI (i := 11) rfl (by decide +kernel) (pv_index (m := 1) rfl rfl rfl rfl (by omega) (by omega)) ?_
  refine zF (i := 12) rfl (by decide +kernel) (by decide +kernel) ?_
  refine qW 2 (m := 1) (v := .int .i64 _) (vs := [.int .i64 depth]) (c' := tV (pressR m.buttons depth (a.buttons.take (k + 1)) (List.replicate m.rods.toNat 0))) rfl rfl rfl rfl rfl rfl (Nat.ble_eq_true_of_le (by rw [hP6]; omega)) rfl (by rw [pressR_take hkl, getD_get hbk2]; exact wrL_set (by omega)) ?_
  refine wS [_, _, _] rfl ?_
  refine zI rfl ?_
  refine qB rfl ?_
  refine qA (qC (v := .int .i64 _) rfl) ?_
  refine qA (qT rfl (by omega)) ?_
  refine qA (qE (v := .int .i64 _) rfl) ?_
  refine ⟨k + 1, ⟨rfl, trivial⟩, rfl, rfl, E_k, fun h3 E3 => hkl, by first | omega | (dsimp only; omega), ?_⟩
  repeat (first | exact qY _ _ _ | refine wG (by decide) ?_ | refine qX rfl ?_ | refine wH rfl ?_)
 ·skip
  have hke : k = a.buttons.length := by have := geI hk; omega
  subst hke
  rw [List.take_length]
  refine wV ?_
  refine qD ?_
  refine qD ?_
  refine qB rfl ?_
  refine qA (qE (v := .int .i64 _) rfl) ?_
  refine qP ?_
  refine xp_loopL [9, 10, 11, 34, 35, 36, 37, 38, 39, 40, 41, 42, 43, 44, 45, 46, 47, 48, 49, 50, 51, 52, 53, 54, 55, 56, 57, 58, 59, 60, 61, 62, 63, 64, 65, 66, 67, 68, 69, 70, 71, 72, 73, 74, 75, 76, 77, 78, 79] 3 (α := Nat) (fun r => [(9, .int .i64 r)]) (fun r L => L.set 2 (some (bl, .cells (tV (sweepN m a (startR m a depth) r)).toArray 3 (0, 0)))) (fun r h_r => r ≤ m.rods.toNat) (fun r => m.rods.toNat - r) (0) ⟨rfl, trivial⟩ (rfl) (Nat.zero_le _) ?_
  rintro r T2 h_r E_r J_r
  refine qS [_, _, _] rfl ?_
  refine qD ?_
  refine qD ?_
  refine qB rfl ?_
  refine qA (qC (v := .int .i64 _) rfl) ?_
  refine qA (qF rfl rfl rfl rfl 0 rfl) ?_
  refine qH 0 (v := .int .i64 _) rfl rfl rfl rfl ?_
  refine qA (qL (v := .bool _) rfl) ?_
  refine qR rfl (fun hr => ?_) (fun hr => ?_)
  ·skip
   have hrl : r < m.rods.toNat := by have := of_decide_eq_true hr; omega
   obtain ⟨P, hP⟩ : ∃ P, P = sweepN m a (startR m a depth) r := ⟨_, rfl⟩
   have hSt : sweepN m a (startR m a depth) (r + 1) = linkM a.on m.links P := by rw [hP]; rfl
   have hP6 : P.length = m.rods.toNat := by rw [hP, sweep_len, start_len]
   have hPB : Bd depth P := by rw [hP]; exact turnsR_bd F hd.1 r
   rw [← hP]
   refine qO ?_
   refine qD ?_
   refine qP ?_
   refine qD ?_
   refine qB rfl ?_
   refine qA (qE (v := .int .i64 _) rfl) ?_
   refine qP ?_
   refine xp_loopL [10, 11, 40, 41, 42, 43, 44, 45, 46, 47, 48, 49, 50, 51, 52, 53, 54, 55, 56, 57, 58, 59, 60, 61, 62, 63, 64, 65, 66, 67, 68, 69, 70, 71, 72, 73, 74, 75, 76, 77, 78, 79] 3 (α := Nat) (fun i => [(10, .int .i64 i)]) (fun i L => L.set 2 (some (bl, .cells (tV (linkM a.on (m.links.take i) P)).toArray 3 (0, 0)))) (fun i h_i => i ≤ m.links.length) (fun i => m.links.length - i) (0) ⟨rfl, trivial⟩ (rfl) (Nat.zero_le _) ?_
   rintro i T3 h_i E_i J_i
   refine qS [_, _, _] rfl ?_
   refine qD ?_
   refine qD ?_
   refine qB rfl ?_
   refine qA (qC (v := .int .i64 _) rfl) ?_
   refine qA (qF rfl rfl rfl rfl 7 rfl) ?_
   refine qH 0 (v := .slice _ _ _) rfl rfl rfl rfl ?_
   refine qA (wP rfl rfl) ?_
   refine qA (qL (v := .bool _) rfl) ?_
   refine qR rfl (fun hi => ?_) (fun hi => ?_)
   ·skip
    have hil : i < m.links.length := ltI hi
    obtain ⟨g, off, hA, hc⟩ := (RM.l.ext (zM (zM E_k E_r) E_i)).at (by omega) hil
    obtain ⟨⟨f0, f1⟩, ⟨t0, t1⟩, _, _, g0, g1⟩ := M.link _ (List.getElem_mem hil)
    have mtr := M.travel
    obtain ⟨Z, hZ⟩ : ∃ Z, Z = linkM a.on (m.links.take i) P := ⟨_, rfl⟩
    have hZ6 : Z.length = m.rods.toNat := by rw [hZ, linkR_len, hP6]
    have hT6 : (tV Z).length = m.rods.toNat := by rw [List.length_map, hZ6]
    have hZB : Bd depth Z := by rw [hZ]; exact link_bd _ (fun l hl => F.lag l (take_mem hl)) hPB
    have z1 := hZB m.links[i].frm.toNat
    have z2 := hZB m.links[i].to.toNat
    have hNext := linkM_take (on := a.on) (t := P) hil
    rw [← hZ] at hNext ⊢
    refine qO ?_
    refine qD ?_
    refine qP ?_
    refine qD ?_
    refine qB rfl ?_
    refine qA (qF rfl rfl rfl rfl 7 rfl) ?_
    refine qH 0 (v := .slice _ _ _) rfl rfl rfl rfl ?_
    refine qA (qC (v := .int .i64 _) rfl) ?_
    refine qA (wO rfl hA rfl rfl rfl (by omega) (by omega)) ?_
    refine op_loadA rfl rfl rfl rfl (hc) ?_
    refine zA (cs := [_, _, _, _]) rfl rfl fun b11 hb11 => ?_
    refine qK [_, _, _, _] rfl ?_
    refine qW 3 (v := .agg #[.int .i64 _, .int .i64 _, .int .i64 _, .int .i64 _]) (vs := [_, _, _, _]) (c' := [_, _, _, _]) rfl rfl rfl rfl rfl rfl rfl rfl rfl ?_
    refine qK [_, _, _, _] rfl ?_
    refine xp_cutB [52, 53, 54, 55, 56, 57, 58, 59, 60, 61] 4 (α := Unit) (fun u => [(61, .bool (active a.on m.links[i]))]) (fun u L => L) (fun u h_u => True) ?_ ?_
    ·skip
     rcases Bool.eq_false_or_eq_true (decide (m.links[i].reg < 0)) with hr | hr
     ·skip
      refine qB rfl ?_
      refine qA (qF rfl rfl rfl rfl 2 rfl) ?_
      refine qH 3 (v := .int .i64 _) rfl rfl rfl rfl ?_
      refine qA (qL (v := .bool _) rfl) ?_
      refine qA (qC (v := .bool _) rfl) ?_
      refine qJ rfl hr ?_
      refine qJ rfl hr ?_
      refine qJ rfl hr ?_
      refine qJ rfl hr ?_
      refine qJ rfl hr ?_
      refine qA (wI rfl hr (v := .bool _) rfl) ?_
      refine ⟨(), ⟨(by show Value.bool _ = _; unfold active; rw [hr]; rfl), trivial⟩, rfl, rfl, (Ext.refl _), fun h3 E3 => by first | trivial | omega | (refine ⟨?_, ?_⟩ <;> omega), ?_⟩
      repeat (first | exact wY _ _ | exact qY _ _ _ | refine wG (by decide) ?_ | refine qX rfl ?_ | refine wH rfl ?_)
     ·skip
      refine qB rfl ?_
      refine qA (qF rfl rfl rfl rfl 2 rfl) ?_
      refine qH 3 (v := .int .i64 _) rfl rfl rfl rfl ?_
      refine qA (qL (v := .bool _) rfl) ?_
      refine qA (qC (v := .bool _) rfl) ?_
      refine qG rfl hr ?_
      refine qA (qF rfl rfl rfl rfl 1 rfl) ?_
      refine qG rfl hr ?_
      refine qH 1 (v := .slice _ _ _) rfl rfl rfl rfl ?_
      refine qG rfl hr ?_
      refine qA (qF rfl rfl rfl rfl 2 rfl) ?_
      refine qG rfl hr ?_
      refine qH 3 (v := .int .i64 _) rfl rfl rfl rfl ?_
      refine qG rfl hr ?_
      refine wK (caps := []) (vs := [.slice _ _ _, .int .i64 _]) rfl rfl rfl (hasR_ok a.on m.links[i].reg OA cO h_i (RH.o.ext (zM (zM E_k E_r) E_i)) (by omega)) ?_
      rintro _ h1 E1 rfl
      refine qA (wN rfl hr (v := .bool _) rfl) ?_
      refine ⟨(), ⟨(by show Value.bool _ = _; unfold active; rw [hr]; simp), trivial⟩, rfl, rfl, E1, fun h3 E3 => by first | trivial | omega | (refine ⟨?_, ?_⟩ <;> omega), ?_⟩
      repeat (first | exact wY _ _ | exact qY _ _ _ | refine wG (by decide) ?_ | refine qX rfl ?_ | refine wH rfl ?_)
    ·rintro u T4 h_u E_u J_u
     refine qS [_, _, _, _] rfl ?_
     refine qR rfl (fun hact => ?_) (fun hact => ?_)
     ·skip
      rw [if_pos hact] at hNext
      refine xp_dw [] rfl rfl rfl ?_
      refine qI (i := 0) rfl (by decide +kernel) (qC (v := .slice _ _ _) rfl) ?_
      refine qI (i := 1) rfl (by decide +kernel) (qF rfl rfl rfl rfl 1 rfl) ?_
      refine qZ (i := 2) rfl (by decide +kernel) ?_
      refine qH 3 (v := .int .i64 _) rfl rfl rfl rfl ?_
      refine qI (i := 3) rfl (by decide +kernel) (qC (v := .slice _ _ _) rfl) ?_
      refine qI (i := 4) rfl (by decide +kernel) (qF rfl rfl rfl rfl 1 rfl) ?_
      refine qZ (i := 5) rfl (by decide +kernel) ?_
      refine qH 3 (v := .int .i64 _) rfl rfl rfl rfl ?_
      refine qI (i := 6) rfl (by decide +kernel) (pv_index (m := 1) rfl rfl rfl rfl (by omega) (by omega)) ?_
      refine qZ (i := 7) rfl (by decide +kernel) ?_
      refine qH 2 (v := .int .i64 (Z.getD m.links[i].to.toNat 0)) rfl rfl rfl (tV_at (by omega) (by omega)) ?_
      refine qI (i := 8) rfl (by decide +kernel) (qC (v := .slice _ _ _) rfl) ?_
      refine qI (i := 9) rfl (by decide +kernel) (qF rfl rfl rfl rfl 0 rfl) ?_
      refine qZ (i := 10) rfl (by decide +kernel) ?_
      refine qH 3 (v := .int .i64 _) rfl rfl rfl rfl ?_
      refine qI (i := 11) rfl (by decide +kernel) (pv_index (m := 1) rfl rfl rfl rfl (by omega) (by omega)) ?_
      refine qZ (i := 12) rfl (by decide +kernel) ?_
      refine qH 2 (v := .int .i64 (Z.getD m.links[i].frm.toNat 0)) rfl rfl rfl (tV_at (by omega) (by omega)) ?_
      refine qI (i := 13) rfl (by decide +kernel) (qF rfl rfl rfl rfl 3 rfl) ?_
      refine qZ (i := 14) rfl (by decide +kernel) ?_
      refine qH 3 (v := .int .i64 _) rfl rfl rfl rfl ?_
      refine qI (i := 15) rfl (by decide +kernel) (qT rfl (by omega)) ?_
      refine qI (i := 16) rfl (by decide +kernel) (pv_max rfl rfl) ?_
      refine qI (i := 17) rfl (by decide +kernel) (pv_index (m := 1) rfl rfl rfl rfl (by omega) (by omega)) ?_
      refine zF (i := 18) rfl (by decide +kernel) (by decide +kernel) ?_
      refine qW 2 (m := 1) (v := .int .i64 _) (vs := [.int .i64 (max (Z.getD m.links[i].to.toNat 0) (Z.getD m.links[i].frm.toNat 0 - m.links[i].lag))]) (c' := tV (linkM a.on (m.links.take (i + 1)) P)) rfl rfl rfl rfl rfl rfl (Nat.ble_eq_true_of_le (by rw [hT6]; omega)) rfl (by rw [hNext]; exact wrL_rise (by omega) rfl) ?_
      refine wS [_, _, _, _] rfl ?_
      refine zI rfl ?_
      refine qB rfl ?_
      refine qA (qC (v := .int .i64 _) rfl) ?_
      refine qA (qT rfl (by omega)) ?_
      refine qA (qE (v := .int .i64 _) rfl) ?_
      refine ⟨i + 1, ⟨rfl, trivial⟩, rfl, rfl, (zM E_i E_u), fun h3 E3 => hil, by first | omega | (dsimp only; omega), ?_⟩
      repeat (first | exact qY _ _ _ | refine wG (by decide) ?_ | refine qX rfl ?_ | refine wH rfl ?_)
     ·skip
      rw [if_neg (by rw [hact]; decide)] at hNext
      refine qO ?_
      refine qB rfl ?_
      refine qA (qC (v := .int .i64 _) rfl) ?_
      refine qA (qT rfl (by omega)) ?_
      refine qA (qE (v := .int .i64 _) rfl) ?_
      refine ⟨i + 1, ⟨rfl, trivial⟩, rfl, by rw [hNext]; rfl, (zM E_i E_u), fun h3 E3 => hil, by first | omega | (dsimp only; omega), ?_⟩
      repeat (first | exact qY _ _ _ | refine wG (by decide) ?_ | refine qX rfl ?_ | refine wH rfl ?_)
   ·skip
    have hie : i = m.links.length := by have := geI hi; omega
    subst hie
    rw [List.take_length, ← hSt]
    refine wV ?_
    refine qB rfl ?_
    refine qA (qC (v := .int .i64 _) rfl) ?_
    refine qA (qT rfl (by omega)) ?_
    refine qA (qE (v := .int .i64 _) rfl) ?_
    refine ⟨r + 1, ⟨rfl, trivial⟩, rfl, rfl, (zM E_r E_i), fun h3 E3 => hrl, by first | omega | (dsimp only; omega), ?_⟩
    repeat (first | exact qY _ _ _ | refine wG (by decide) ?_ | refine qX rfl ?_ | refine wH rfl ?_)
  ·skip
   have hre : r = m.rods.toNat := by have := of_decide_eq_false hr; omega
   subst hre
   refine wV ?_
   refine qD ?_
   refine qB rfl ?_
   refine qA (qC (v := .slice _ _ _) rfl) ?_
   refine qA (qE (v := .slice _ _ _) rfl) ?_
   refine qV ?_
   refine qN (vs := [_]) Try.results84 ⟨qM rfl rfl, trivial⟩ fun V => ?_
   exact ⟨(zM (zM E_k E_r) (qQ V)), slr_own (l := turnsR m a depth) V (i := 2) rfl (turnsR_len m a depth)⟩
theorem liftsR_ok (m : MachP) (M : MOK m) (a : HandP) (F : Fit m a) (depth : Int) (hd : 0 ≤ depth ∧ depth ≤ 12) (AB AQ AL AW HA OA : Option Addr) (cB cQ cL cW cH cO : Nat) (h : AH) (RM : MachR h AB AQ AL AW m) (RH : HandR h HA OA a) :
  FnT Try.prog 85 #[machV AB AQ AL AW cB cQ cL cW m, handV HA OA cH cO a, .int .i64 depth] h (fun v h' => SlR h' 1 intC (liftedM m (turnsR m a depth)) v) := by
 have hlv := M.levers
 have hpl := M.pl
 have hrd := M.rods
 have mtr := M.travel
 have hle : m.levers = ((m.levers.toNat : Nat) : Int) := by omega
 obtain ⟨t, ht⟩ : ∃ t, t = turnsR m a depth := ⟨_, rfl⟩
 have htl : t.length = m.rods.toNat := by rw [ht, turnsR_len]
 have htb : Bd depth t := by rw [ht]; exact turnsR_bd F hd.1 _
 have L1 := turnsR_ok m M a F depth hd AB AQ AL AW HA OA cB cQ cL cW cH cO
 rw [← ht] at L1 ⊢
 refine wM Try.func85 rfl Try.ntmps85 rfl ?_
 refine qD ?_
 refine qB rfl ?_
 refine zE (v := machV AB AQ AL AW cB cQ cL cW m) (cs := [_, _, _, _, _, _, _, _, _]) rfl rfl fun b2 hb2 => ?_
 refine qK [_] rfl ?_
 refine zE (v := handV HA OA cH cO a) (cs := [_, _]) rfl rfl fun b3 hb3 => ?_
 refine qK [_, _] rfl ?_
 refine qA (qE (v := .slice _ _ _) rfl) ?_
 refine qD ?_
 refine qB rfl ?_
 refine qA (qF rfl rfl rfl rfl 1 rfl) ?_
 refine qH 0 (v := .int .i64 _) rfl rfl rfl rfl ?_
 refine op_makeSlice (len := m.levers.toNat) (cap := m.levers.toNat) (zc := [.int .i64 0]) rfl rfl hle hle rfl rfl rfl rfl rfl (by omega) (by omega) rfl fun bl hbl => ?_
 refine qK [_, _, _] rfl ?_
 refine qK [_, _, some (bl, .cells (tV (List.replicate m.levers.toNat 0)).toArray 3 (0, 0))] (by rw [← mk_zero]; rfl) ?_
 refine qA (qE (v := .slice _ _ _) rfl) ?_
 refine qD ?_
 refine qB rfl ?_
 refine wE 0 (vs := [.int .i64 _, .int .i64 _, .int .i64 _, .int .i64 _, .int .i64 _, .slice _ _ _, .slice _ _ _, .slice _ _ _, .slice _ _ _]) rfl rfl rfl rfl rfl ?_
 refine wE 1 (vs := [.slice _ _ _, .slice _ _ _]) rfl rfl rfl rfl rfl ?_
 refine qA (qC (v := .int .i64 _) rfl) ?_
 refine wK (caps := []) (vs := [.agg #[.int .i64 _, .int .i64 _, .int .i64 _, .int .i64 _, .int .i64 _, .slice _ _ _, .slice _ _ _, .slice _ _ _, .slice _ _ _], .agg #[.slice _ _ _, .slice _ _ _], .int .i64 _]) rfl rfl rfl (L1 h (RM.ext (Ext.refl _)) (RH.ext (Ext.refl _))) ?_
 rintro _ h1 E1 ⟨TA, cT, rfl, RT⟩
 rw [htl]
 refine qA (qE (v := .slice _ _ _) rfl) ?_
 refine qD ?_
 refine qD ?_
 refine qB rfl ?_
 refine qA (qE (v := .int .i64 _) rfl) ?_
 refine qP ?_
 refine xp_loopL [9, 10, 18, 19, 20, 21, 22, 23, 24, 25, 26, 27, 28, 29, 30, 31, 32, 33, 34, 35, 36, 37, 38, 39, 40, 41, 42, 43, 44, 45, 46, 47] 3 (α := Nat) (fun k => [(9, .int .i64 k)]) (fun k L => L.set 2 (some (bl, .cells (tV ((m.pins.take k).foldl (pinS t) (List.replicate m.levers.toNat 0))).toArray 3 (0, 0)))) (fun k h_k => k ≤ m.pins.length) (fun k => m.pins.length - k) (0) ⟨rfl, trivial⟩ (rfl) (Nat.zero_le _) ?_
 rintro k T1 h_k E_k J_k
 refine qS [_, _, _] rfl ?_
 refine qD ?_
 refine qD ?_
 refine qB rfl ?_
 refine qA (qC (v := .int .i64 _) rfl) ?_
 refine qA (qF rfl rfl rfl rfl 6 rfl) ?_
 refine qH 0 (v := .slice _ _ _) rfl rfl rfl rfl ?_
 refine qA (wP rfl rfl) ?_
 refine qA (qL (v := .bool _) rfl) ?_
 refine qR rfl (fun hk => ?_) (fun hk => ?_)
 ·skip
  have hkl : k < m.pins.length := ltI hk
  obtain ⟨g, off, hA, hc⟩ := (RM.q.ext (zM E1 E_k)).at (by omega) hkl
  obtain ⟨⟨f0, f1⟩, ⟨t0, t1⟩, g0, g1⟩ := M.pin _ (List.getElem_mem hkl)
  have hrl : m.pins[k].rod.toNat < t.length := by omega
  obtain ⟨g2, off2, hA2, hc2⟩ := (RT.ext E_k).at (by omega) hrl
  obtain ⟨Z, hZ⟩ : ∃ Z, Z = (m.pins.take k).foldl (pinS t) (List.replicate m.levers.toNat 0) := ⟨_, rfl⟩
  have hZl : Z.length = m.levers.toNat := by rw [hZ, pins_len, List.length_replicate]
  have hZV : (tV Z).length = m.levers.toNat := by rw [List.length_map, hZl]
  have hNext := pins_take (t := t) (l0 := List.replicate m.levers.toNat 0) hkl
  have z1 := htb m.pins[k].rod.toNat
  have z2 : t.getD m.pins[k].rod.toNat 0 = t[m.pins[k].rod.toNat] := getD_get hrl
  rw [z2] at z1
  rw [← hZ] at hNext ⊢
  refine qO ?_
  refine qD ?_
  refine qP ?_
  refine qD ?_
  refine qB rfl ?_
  refine qA (qF rfl rfl rfl rfl 6 rfl) ?_
  refine qH 0 (v := .slice _ _ _) rfl rfl rfl rfl ?_
  refine qA (qC (v := .int .i64 _) rfl) ?_
  refine qA (wO rfl hA rfl rfl rfl (by omega) (by omega)) ?_
  refine op_loadA rfl rfl rfl rfl (hc) ?_
  refine zA (cs := [_, _, _]) rfl rfl fun b10 hb10 => ?_
  refine qK [_, _, _, _] rfl ?_
  refine qW 3 (v := .agg #[.int .i64 _, .int .i64 _, .int .i64 _]) (vs := [_, _, _]) (c' := [_, _, _]) rfl rfl rfl rfl rfl rfl rfl rfl rfl ?_
  refine qK [_, _, _, _] rfl ?_
  refine xp_dw [] rfl rfl rfl ?_
  refine qI (i := 0) rfl (by decide +kernel) (qC (v := .slice _ _ _) rfl) ?_
  refine qI (i := 1) rfl (by decide +kernel) (qF rfl rfl rfl rfl 1 rfl) ?_
  refine qZ (i := 2) rfl (by decide +kernel) ?_
  refine qH 3 (v := .int .i64 _) rfl rfl rfl rfl ?_
  refine qI (i := 3) rfl (by decide +kernel) (qC (v := .slice _ _ _) rfl) ?_
  refine qI (i := 4) rfl (by decide +kernel) (qF rfl rfl rfl rfl 1 rfl) ?_
  refine qZ (i := 5) rfl (by decide +kernel) ?_
  refine qH 3 (v := .int .i64 _) rfl rfl rfl rfl ?_
  refine qI (i := 6) rfl (by decide +kernel) (pv_index (m := 1) rfl rfl rfl rfl (by omega) (by omega)) ?_
  refine qZ (i := 7) rfl (by decide +kernel) ?_
  refine qH 2 (v := .int .i64 (Z.getD m.pins[k].lever.toNat 0)) rfl rfl rfl (tV_at (by omega) (by omega)) ?_
  refine qI (i := 8) rfl (by decide +kernel) (qC (v := .slice _ _ _) rfl) ?_
  refine qI (i := 9) rfl (by decide +kernel) (qF rfl rfl rfl rfl 0 rfl) ?_
  refine qZ (i := 10) rfl (by decide +kernel) ?_
  refine qH 3 (v := .int .i64 _) rfl rfl rfl rfl ?_
  refine qI (i := 11) rfl (by decide +kernel) (wO rfl hA2 rfl rfl rfl (by omega) (by omega)) ?_
  refine qZ (i := 12) rfl (by decide +kernel) ?_
  refine wT (v := .int .i64 _) rfl rfl ((hc2) 0 _ rfl) ?_
  refine qI (i := 13) rfl (by decide +kernel) (qF rfl rfl rfl rfl 2 rfl) ?_
  refine qZ (i := 14) rfl (by decide +kernel) ?_
  refine qH 3 (v := .int .i64 _) rfl rfl rfl rfl ?_
  refine qI (i := 15) rfl (by decide +kernel) (qT rfl (by omega)) ?_
  refine qI (i := 16) rfl (by decide +kernel) (pv_max rfl rfl) ?_
  refine qI (i := 17) rfl (by decide +kernel) (pv_index (m := 1) rfl rfl rfl rfl (by omega) (by omega)) ?_
  refine zF (i := 18) rfl (by decide +kernel) (by decide +kernel) ?_
  refine qW 2 (m := 1) (v := .int .i64 _) (vs := [.int .i64 (max (Z.getD m.pins[k].lever.toNat 0) (t[m.pins[k].rod.toNat] - m.pins[k].lag))]) (c' := tV ((m.pins.take (k + 1)).foldl (pinS t) (List.replicate m.levers.toNat 0))) rfl rfl rfl rfl rfl rfl (Nat.ble_eq_true_of_le (by rw [hZV]; omega)) rfl (by rw [hNext, pinS, z2]; exact wrL_rise (by omega) rfl) ?_
  refine wS [_, _, _, _] rfl ?_
  refine zI rfl ?_
  refine qB rfl ?_
  refine qA (qC (v := .int .i64 _) rfl) ?_
  refine qA (qT rfl (by omega)) ?_
  refine qA (qE (v := .int .i64 _) rfl) ?_
  refine ⟨k + 1, ⟨rfl, trivial⟩, rfl, rfl, E_k, fun h3 E3 => hkl, by first | omega | (dsimp only; omega), ?_⟩
  repeat (first | exact qY _ _ _ | refine wG (by decide) ?_ | refine qX rfl ?_ | refine wH rfl ?_)
 ·skip
  have hke : k = m.pins.length := by have := geI hk; omega
  subst hke
  rw [List.take_length]
  refine wV ?_
  refine qD ?_
  refine qB rfl ?_
  refine qA (qC (v := .slice _ _ _) rfl) ?_
  refine qA (qE (v := .slice _ _ _) rfl) ?_
  refine qV ?_
  refine qN (vs := [_]) Try.results85 ⟨qM rfl rfl, trivial⟩ fun V => ?_
  exact ⟨(zM (zM E1 E_k) (qQ V)), slr_own (l := liftedM m t) V (i := 2) rfl (lifted_len m t)⟩
theorem listN_stop {x n : Nat} (hx : x < 2 ^ n) : ∀ k, listN x (n + k) = listN x n
 | 0 => rfl
 | k + 1 => by
  rw [← Nat.add_assoc, listN_succ, if_neg, listN_stop hx k]
  rw [Nat.testBit_lt_two_pow (Nat.lt_of_lt_of_le hx (Nat.pow_le_pow_right (by omega) (by omega)))]
  decide
theorem soundsR_ok (m : MachP) (M : MOK m) (a : HandP) (F : Fit m a) (AB AQ AL AW HA OA : Option Addr) (cB cQ cL cW cH cO : Nat) (h : AH) (RM : MachR h AB AQ AL AW m) (RH : HandR h HA OA a) :
  FnT Try.prog 86 #[machV AB AQ AL AW cB cQ cL cW m, handV HA OA cH cO a] h (fun v h' => SlR h' 1 intC (listN (soundsM m a m.travel) 6) v) := by
 have hlv := M.levers
 have mtr := M.travel
 have sl := sounds_lt m a m.travel
 have L1 := liftsR_ok m M a F m.travel (by omega) AB AQ AL AW HA OA cB cQ cL cW cH cO
 rw [liftsR M F] at L1
 obtain ⟨t, ht⟩ : ∃ t, t = liftedM m (turnedM m a m.travel) := ⟨_, rfl⟩
 have htl : t.length = m.levers.toNat := by rw [ht, lifted_len]
 obtain ⟨s, hs⟩ : ∃ s, s = soundsM m a m.travel := ⟨_, rfl⟩
 have hb : ∀ k : Nat, (k : Int) < m.levers → s.testBit k = decide (m.opn ≤ t.getD k 0) := fun k hk => by rw [hs, ht]; exact sounds_bit hk
 rw [← ht] at L1
 rw [← hs] at sl ⊢
 refine wM Try.func86 rfl Try.ntmps86 rfl ?_
 refine qD ?_
 refine qB rfl ?_
 refine zE (v := .agg #[.int .i64 _, .int .i64 _, .int .i64 _, .int .i64 _, .int .i64 _, .slice _ _ _, .slice _ _ _, .slice _ _ _, .slice _ _ _]) (cs := [_, _, _, _, _, _, _, _, _]) rfl rfl fun b2 hb2 => ?_
 refine qK [_] rfl ?_
 refine zE (v := .agg #[.slice _ _ _, .slice _ _ _]) (cs := [_, _]) rfl rfl fun b3 hb3 => ?_
 refine qK [_, _] rfl ?_
 refine qA (qE (v := .slice _ _ _) rfl) ?_
 refine qD ?_
 refine qB rfl ?_
 refine wE 0 (vs := [.int .i64 _, .int .i64 _, .int .i64 _, .int .i64 _, .int .i64 _, .slice _ _ _, .slice _ _ _, .slice _ _ _, .slice _ _ _]) rfl rfl rfl rfl rfl ?_
 refine wE 1 (vs := [.slice _ _ _, .slice _ _ _]) rfl rfl rfl rfl rfl ?_
 refine qA (qF rfl rfl rfl rfl 3 rfl) ?_
 refine qH 0 (v := .int .i64 _) rfl rfl rfl rfl ?_
 refine wK (caps := []) (vs := [.agg #[.int .i64 _, .int .i64 _, .int .i64 _, .int .i64 _, .int .i64 _, .slice _ _ _, .slice _ _ _, .slice _ _ _, .slice _ _ _], .agg #[.slice _ _ _, .slice _ _ _], .int .i64 _]) rfl rfl rfl (L1 h (RM.ext (Ext.refl _)) (RH.ext (Ext.refl _))) ?_
 rintro _ h1 E1 ⟨TA, cT, rfl, RT⟩
 refine qA (qE (v := .slice _ _ _) rfl) ?_
 refine goes_more ?_
 refine qS [_, _, _] rfl ?_
 refine qD ?_
 refine qB rfl ?_
 refine qA (qE (v := .slice _ _ _) rfl) ?_
 refine qD ?_
 refine qD ?_
 refine qB rfl ?_
 refine qA (qE (v := .int .i64 _) rfl) ?_
 refine qP ?_
 refine xp_loopL [6, 7, 13, 14, 15, 16, 17, 18, 19, 20, 21, 22, 23, 24, 25, 26, 27, 28, 29] 3 (α := Nat × Acc) (fun ⟨k, a⟩ => [(7, .int .i64 k), (6, .slice a.A a.n a.c)]) (fun ⟨k, a⟩ L => L.set 2 (a.p)) (fun ⟨k, a⟩ h_k => k ≤ t.length ∧ AccR 3 1 ((listN s k).flatMap intC) a) (fun ⟨k, a⟩ => t.length - k) ((0, acc0)) ⟨rfl, rfl, trivial⟩ (rfl) (⟨Nat.zero_le _, accR0⟩) ?_
 rintro ⟨k, a⟩ T1 h_k E_k J_k
 refine qS [_, _, _] rfl ?_
 obtain ⟨K1, K2⟩ := J_k
 refine qD ?_
 refine qD ?_
 refine qB rfl ?_
 refine qA (qC (v := .int .i64 _) rfl) ?_
 refine qA (qC (v := .slice _ _ _) rfl) ?_
 refine qA (wP rfl rfl) ?_
 refine qA (qL (v := .bool _) rfl) ?_
 refine qR rfl (fun hk => ?_) (fun hk => ?_)
 ·skip
  have hkl : k < t.length := ltI hk
  have hbk := hb k (by omega)
  rw [getD_get hkl] at hbk
  obtain ⟨g, off, hA, hc⟩ := (RT.ext E_k).at (by omega) hkl
  refine qO ?_
  refine qD ?_
  refine qP ?_
  refine qD ?_
  refine xp_dw [] rfl rfl rfl ?_
  refine qI (i := 0) rfl (by decide +kernel) (qC (v := .slice _ _ _) rfl) ?_
  refine qI (i := 1) rfl (by decide +kernel) (qC (v := .int .i64 _) rfl) ?_
  refine qI (i := 2) rfl (by decide +kernel) (wO rfl hA rfl rfl rfl (by omega) (by omega)) ?_
  refine qZ (i := 3) rfl (by decide +kernel) ?_
  refine wT (v := .int .i64 _) rfl rfl ((hc) 0 _ rfl) ?_
  refine qI (i := 4) rfl (by decide +kernel) (qF rfl rfl rfl rfl 4 rfl) ?_
  refine qZ (i := 5) rfl (by decide +kernel) ?_
  refine qH 0 (v := .int .i64 _) rfl rfl rfl rfl ?_
  refine qI (i := 6) rfl (by decide +kernel) (qL (v := .bool _) rfl) ?_
  refine zI rfl ?_
  refine qR rfl (fun ho => ?_) (fun ho => ?_)
  ·skip
   have ho' : m.opn ≤ t[k] := of_decide_eq_true ho
   refine qB rfl ?_
   refine qA (qC (v := .slice _ _ _) rfl) ?_
   refine qA (qC (v := .int .i64 _) rfl) ?_
   refine wD (zc := [_]) (vs := [(0, .int .i64 _)]) (cs := [_]) rfl rfl rfl rfl rfl rfl rfl fun b28 hb28 => ?_
   refine qK [_, _, _, _] rfl ?_
   refine wZ 2 K2 rfl rfl rfl (fun V => rdP V (i := 3) rfl) rfl rfl rfl rfl rfl rfl rfl rfl rfl (by omega) rfl (by rw [wU (m := 1) (fun _ _ => rfl)]; have := listN_len s k; simp; omega) fun a2 h2a E2a ha2 => ?_
   refine qK [_, _, _, _] rfl ?_
   refine qA (qE (v := .slice _ _ _) rfl) ?_
   refine qB rfl ?_
   refine qA (qC (v := .int .i64 _) rfl) ?_
   refine qA (qT rfl (by omega)) ?_
   refine qA (qE (v := .int .i64 _) rfl) ?_
   refine ⟨(k + 1, a2), ⟨rfl, rfl, trivial⟩, rfl, rfl, (zM E_k E2a), fun h3 E3 => ⟨hkl, by rw [listN_succ, if_pos (by rw [hbk]; exact decide_eq_true ho'), List.flatMap_append]; exact ha2⟩, by first | omega | (dsimp only; omega), ?_⟩
   repeat (first | exact qY _ _ _ | refine wG (by decide) ?_ | refine qX rfl ?_ | refine wH rfl ?_)
  ·skip
   have ho' : ¬ m.opn ≤ t[k] := of_decide_eq_false ho
   refine qO ?_
   refine qB rfl ?_
   refine qA (qC (v := .int .i64 _) rfl) ?_
   refine qA (qT rfl (by omega)) ?_
   refine qA (qE (v := .int .i64 _) rfl) ?_
   refine ⟨(k + 1, a), ⟨rfl, rfl, trivial⟩, rfl, rfl, E_k, fun h3 E3 => ⟨hkl, by rw [listN_succ, if_neg (by rw [hbk]; simpa using ho')]; exact K2⟩, by first | omega | (dsimp only; omega), ?_⟩
   repeat (first | exact qY _ _ _ | refine wG (by decide) ?_ | refine qX rfl ?_ | refine wH rfl ?_)
 ·skip
  have hke : k = m.levers.toNat := by have := geI hk; omega
  subst hke
  rw [show listN s 6 = listN s m.levers.toNat by rw [← listN_stop sl (6 - m.levers.toNat)]; congr 1; omega]
  refine wV ?_
  refine qD ?_
  refine qB rfl ?_
  refine qA (qC (v := .slice _ _ _) rfl) ?_
  refine qA (qE (v := .slice _ _ _) rfl) ?_
  refine qV ?_
  refine qN (vs := [_]) Try.results86 ⟨qM rfl rfl, trivial⟩ fun V => ?_
  exact ⟨(zM (zM E1 E_k) (qQ V)), AccP.row (i := 2) K2 (by have := listN_len s m.levers.toNat; omega) (fun _ _ => rfl) V rfl⟩
end
end Go.Proofs.Ythphpbdmbmiaiaa
namespace Go.Proofs.Ythphpbdmbmiaiaa
open Go Go.HL Go.Proofs Go.Wx Go.Rd
section
variable [Lvl]
set_option maxRecDepth 100000
def ChoI (P : List Int → Bool) (n : Nat) (p3 p4 p10 p11 : Nat × Obj) (b6 b7 l : Nat) (t6 t7 : TypeId) (r : Loop) (h0 : AH) (k : Nat) (h : AH) (M : Pv) : Prop :=
 Ext h0 h ∧ (∀ i s, i < k → (setsM n)[i]? = some s → P s = false) ∧
  M = [some p3, some p4, some (b6, .cells #[.slice none 0 0] t6 (0, 0)), some (b7, .cells #[.int .i64 0] t7 (0, 0)), some p10, some p11, some (l, obL r .ready none)]
def ChoF (P : List Int → Bool) (n : Nat) (p3 p4 p10 p11 : Nat × Obj) (b6 b7 l : Nat) (t6 t7 : TypeId) (r : Loop) (h0 : AH) (h : AH) (M : Pv) : Prop :=
 Ext h0 h ∧ ∃ (x : List Int) (BA : Option Addr) (cB : Nat), (setsM n).find? P = some x ∧ Row h 1 intC BA x ∧
  M = [some p3, some p4, some (b6, .cells #[.slice BA x.length cB] t6 (0, 0)), some (b7, .cells #[.int .i64 0] t7 (0, 0)), some p10, some p11, some (l, obL r .done (some .ret))]
theorem ChoI.ext {P : List Int → Bool} {n : Nat} {p3 p4 p10 p11 : Nat × Obj} {b6 b7 l : Nat} {t6 t7 : TypeId} {r : Loop} {h0 h h' : AH} {k : Nat} {M : Pv} (I : ChoI P n p3 p4 p10 p11 b6 b7 l t6 t7 r h0 k h M) (E : Ext h h') : ChoI P n p3 p4 p10 p11 b6 b7 l t6 t7 r h0 k h' M := ⟨I.1.trans E, I.2⟩
theorem ChoF.ext {P : List Int → Bool} {n : Nat} {p3 p4 p10 p11 : Nat × Obj} {b6 b7 l : Nat} {t6 t7 : TypeId} {r : Loop} {h0 h h' : AH} {M : Pv} (I : ChoF P n p3 p4 p10 p11 b6 b7 l t6 t7 r h0 h M) (E : Ext h h') : ChoF P n p3 p4 p10 p11 b6 b7 l t6 t7 r h0 h' M := by
 obtain ⟨E0, x, BA, cB, e1, R1, e2⟩ := I
 exact ⟨E0.trans E, x, BA, cB, e1, R1.ext E, e2⟩
end
end Go.Proofs.Ythphpbdmbmiaiaa
namespace Go.Rd
open Go Go.HL Go.Wx
end Go.Rd
namespace Go.Proofs.Ythphpbdmbmiaiaa
open Go Go.HL Go.Proofs Go.Wx Go.Rd
section
variable [Lvl]
set_option maxRecDepth 100000
end
end Go.Proofs.Ythphpbdmbmiaiaa
namespace Go.Proofs.Ythphpbdmbmiaiaa
open Go Go.HL Go.Proofs Go.Wx Go.Rd
section
variable [Lvl]
set_option maxRecDepth 100000
end
end Go.Proofs.Ythphpbdmbmiaiaa
namespace Go.Proofs.Ythphpbdmbmiaiaa
open Go Go.HL Go.Proofs Go.Wx Go.Rd
section
variable [Lvl]
set_option maxRecDepth 100000
end
end Go.Proofs.Ythphpbdmbmiaiaa
namespace Go.Proofs.Ythphpbdmbmiaiaa
open Go Go.HL Go.Proofs Go.Wx Go.Rd
section
variable [Lvl]
set_option maxRecDepth 100000
theorem withoutR_ok (l : List Int) (n : Int) (A : Option Addr) (c : Nat) (h : AH) (R : Row h 1 intC A l) (hl : l.length < 2 ^ 20) :
  FnT Try.prog 128 #[.slice A l.length c, .int .i64 n] h (fun v h' => SlR h' 1 intC (l.filter fun x => x != n) v) := by
 refine wM Try.func128 rfl Try.ntmps128 rfl ?_
 refine qD ?_
 refine qB rfl ?_
 refine qA (qE (v := .slice _ _ _) rfl) ?_
 refine goes_more ?_
 refine qS [_] rfl ?_
 refine qD ?_
 refine qB rfl ?_
 refine qA (qE (v := .slice _ _ _) rfl) ?_
 refine qD ?_
 refine qD ?_
 refine qB rfl ?_
 refine qA (qE (v := .int .i64 _) rfl) ?_
 refine qP ?_
 refine xp_loopL [5, 6, 7, 8, 9, 10, 11, 12, 13, 14, 15, 16, 17, 18, 19, 20, 21, 22, 23, 24, 25] 1 (α := Nat × Acc) (fun ⟨k, a⟩ => [(6, .int .i64 k), (5, .slice a.A a.n a.c)]) (fun ⟨k, a⟩ L => L.set 0 (a.p)) (fun ⟨k, a⟩ h_k => k ≤ l.length ∧ AccR 3 1 (((l.take k).filter fun x => x != n).flatMap intC) a) (fun ⟨k, a⟩ => l.length - k) ((0, acc0)) ⟨rfl, rfl, trivial⟩ (rfl) (⟨Nat.zero_le _, accR0⟩) ?_
 rintro ⟨k, a⟩ T1 h_k E_k J_k
 refine qS [_] rfl ?_
 obtain ⟨K1, K2⟩ := J_k
 refine qD ?_
 refine qD ?_
 refine qB rfl ?_
 refine qA (qC (v := .int .i64 _) rfl) ?_
 refine qA (qC (v := .slice _ _ _) rfl) ?_
 refine qA (wP rfl rfl) ?_
 refine qA (qL (v := .bool _) rfl) ?_
 refine qR rfl (fun hk => ?_) (fun hk => ?_)
 ·skip
  have hkl : k < l.length := ltI hk
  obtain ⟨g, off, hA, hc⟩ := (R.ext E_k).at (by omega) hkl
  have hfl : (((l.take k).filter fun x => x != n).flatMap intC).length ≤ k := by rw [wU (m := 1) (fun _ _ => rfl)]; have := List.length_filter_le (fun x => x != n) (l.take k); rw [List.length_take] at this; omega
  refine qO ?_
  refine qD ?_
  refine qP ?_
  refine qD ?_
  refine qB rfl ?_
  refine qA (qC (v := .slice _ _ _) rfl) ?_
  refine qA (qC (v := .int .i64 _) rfl) ?_
  refine qA (wO rfl hA rfl rfl rfl (by omega) (by omega)) ?_
  refine wT (v := .int .i64 _) rfl rfl ((hc) 0 _ rfl) ?_
  refine qA (qC (v := .int .i64 _) rfl) ?_
  refine qA (qL (v := .bool _) rfl) ?_
  refine qR rfl (fun hd => ?_) (fun hd => ?_)
  ·skip
   obtain ⟨g2, off2, hA2, hc2⟩ := (R.ext E_k).at (by omega) hkl
   refine qB rfl ?_
   refine qA (qC (v := .slice _ _ _) rfl) ?_
   refine qA (qC (v := .slice _ _ _) rfl) ?_
   refine qA (qC (v := .int .i64 _) rfl) ?_
   refine qA (wO rfl hA2 rfl rfl rfl (by omega) (by omega)) ?_
   refine wT (v := .int .i64 _) rfl rfl ((hc2) 0 _ rfl) ?_
   refine wD (zc := [_]) (vs := [(0, .int .i64 _)]) (cs := [_]) rfl rfl rfl rfl rfl rfl rfl fun b24 hb24 => ?_
   refine qK [_, _] rfl ?_
   refine wZ 0 K2 rfl rfl rfl (fun V => rdP V (i := 1) rfl) rfl rfl rfl rfl rfl rfl rfl rfl rfl (by omega) rfl (by simp only [List.length_cons, List.length_nil]; omega) fun a2 h2a E2a ha2 => ?_
   refine qK [_, _] rfl ?_
   refine qA (qE (v := .slice _ _ _) rfl) ?_
   refine qB rfl ?_
   refine qA (qC (v := .int .i64 _) rfl) ?_
   refine qA (qT rfl (by omega)) ?_
   refine qA (qE (v := .int .i64 _) rfl) ?_
   refine ⟨(k + 1, a2), ⟨rfl, rfl, trivial⟩, rfl, rfl, (zM E_k E2a), fun h3 E3 => ⟨hkl, by rw [take_snoc hkl, List.filter_append, List.filter_cons_of_pos (by exact hd), List.flatMap_append]; exact ha2⟩, by first | omega | (dsimp only; omega), ?_⟩
   repeat (first | exact qY _ _ _ | refine wG (by decide) ?_ | refine qX rfl ?_ | refine wH rfl ?_)
  ·skip
   refine qO ?_
   refine qB rfl ?_
   refine qA (qC (v := .int .i64 _) rfl) ?_
   refine qA (qT rfl (by omega)) ?_
   refine qA (qE (v := .int .i64 _) rfl) ?_
   refine ⟨(k + 1, a), ⟨rfl, rfl, trivial⟩, rfl, rfl, E_k, fun h3 E3 => ⟨hkl, by rw [take_snoc hkl, List.filter_append, List.filter_cons_of_neg (by rw [hd]; decide), List.filter_nil, List.append_nil]; exact K2⟩, by first | omega | (dsimp only; omega), ?_⟩
   repeat (first | exact qY _ _ _ | refine wG (by decide) ?_ | refine qX rfl ?_ | refine wH rfl ?_)
 ·skip
  have hke : k = l.length := by have := geI hk; omega
  subst hke
  rw [List.take_length] at K2
  refine wV ?_
  refine qD ?_
  refine qB rfl ?_
  refine qA (qC (v := .slice _ _ _) rfl) ?_
  refine qA (qE (v := .slice _ _ _) rfl) ?_
  refine qV ?_
  refine qN (vs := [_]) Try.results128 ⟨qM rfl rfl, trivial⟩ fun V => ?_
  exact ⟨(zM E_k (qQ V)), AccP.row (i := 0) K2 (by omega) (fun _ _ => rfl) V rfl⟩
theorem withR_ok (l : List Int) (n : Int) (A : Option Addr) (c : Nat) (h : AH) (R : Row h 1 intC A l) (hl : l.length < 2 ^ 20) :
  FnT Try.prog 127 #[.slice A l.length c, .int .i64 n] h (fun v h' => SlR h' 1 intC ((l.filter fun x => decide (x < n)) ++ [n] ++ l.filter fun x => decide (x > n)) v) := by
 refine wM Try.func127 rfl Try.ntmps127 rfl ?_
 refine qD ?_
 refine qB rfl ?_
 refine qA (qE (v := .slice _ _ _) rfl) ?_
 refine goes_more ?_
 refine qS [_] rfl ?_
 refine qD ?_
 refine qB rfl ?_
 refine qA (qE (v := .slice _ _ _) rfl) ?_
 refine qD ?_
 refine qD ?_
 refine qB rfl ?_
 refine qA (qE (v := .int .i64 _) rfl) ?_
 refine qP ?_
 refine xp_loopL [5, 6, 8, 9, 10, 11, 12, 13, 14, 15, 16, 17, 18, 19, 20, 21, 22, 23, 24, 25, 26] 1 (α := Nat × Acc) (fun ⟨k, a⟩ => [(6, .int .i64 k), (5, .slice a.A a.n a.c)]) (fun ⟨k, a⟩ L => L.set 0 (a.p)) (fun ⟨k, a⟩ h_k => k ≤ l.length ∧ AccR 3 1 (((l.take k).filter fun x => decide (x < n)).flatMap intC) a) (fun ⟨k, a⟩ => l.length - k) ((0, acc0)) ⟨rfl, rfl, trivial⟩ (rfl) (⟨Nat.zero_le _, accR0⟩) ?_
 rintro ⟨k, a⟩ T1 h_k E_k J_k
 refine qS [_] rfl ?_
 obtain ⟨K1, K2⟩ := J_k
 refine qD ?_
 refine qD ?_
 refine qB rfl ?_
 refine qA (qC (v := .int .i64 _) rfl) ?_
 refine qA (qC (v := .slice _ _ _) rfl) ?_
 refine qA (wP rfl rfl) ?_
 refine qA (qL (v := .bool _) rfl) ?_
 refine qR rfl (fun hk => ?_) (fun hk => ?_)
 ·skip
  have hkl : k < l.length := ltI hk
  obtain ⟨g, off, hA, hc⟩ := (R.ext E_k).at (by omega) hkl
  have hfl : (((l.take k).filter fun x => decide (x < n)).flatMap intC).length ≤ k := by rw [wU (m := 1) (fun _ _ => rfl)]; have := List.length_filter_le (fun x => decide (x < n)) (l.take k); rw [List.length_take] at this; omega
  refine qO ?_
  refine qD ?_
  refine qP ?_
  refine qD ?_
  refine qB rfl ?_
  refine qA (qC (v := .slice _ _ _) rfl) ?_
  refine qA (qC (v := .int .i64 _) rfl) ?_
  refine qA (wO rfl hA rfl rfl rfl (by omega) (by omega)) ?_
  refine wT (v := .int .i64 _) rfl rfl ((hc) 0 _ rfl) ?_
  refine qA (qC (v := .int .i64 _) rfl) ?_
  refine qA (qL (v := .bool _) rfl) ?_
  refine qR rfl (fun hd => ?_) (fun hd => ?_)
  ·skip
   obtain ⟨g2, off2, hA2, hc2⟩ := (R.ext E_k).at (by omega) hkl
   refine qB rfl ?_
   refine qA (qC (v := .slice _ _ _) rfl) ?_
   refine qA (qC (v := .slice _ _ _) rfl) ?_
   refine qA (qC (v := .int .i64 _) rfl) ?_
   refine qA (wO rfl hA2 rfl rfl rfl (by omega) (by omega)) ?_
   refine wT (v := .int .i64 _) rfl rfl ((hc2) 0 _ rfl) ?_
   refine wD (zc := [_]) (vs := [(0, .int .i64 _)]) (cs := [_]) rfl rfl rfl rfl rfl rfl rfl fun b25 hb25 => ?_
   refine qK [_, _] rfl ?_
   refine wZ 0 K2 rfl rfl rfl (fun V => rdP V (i := 1) rfl) rfl rfl rfl rfl rfl rfl rfl rfl rfl (by omega) rfl (by simp only [List.length_cons, List.length_nil]; omega) fun a2 h2a E2a ha2 => ?_
   refine qK [_, _] rfl ?_
   refine qA (qE (v := .slice _ _ _) rfl) ?_
   refine qB rfl ?_
   refine qA (qC (v := .int .i64 _) rfl) ?_
   refine qA (qT rfl (by omega)) ?_
   refine qA (qE (v := .int .i64 _) rfl) ?_
   refine ⟨(k + 1, a2), ⟨rfl, rfl, trivial⟩, rfl, rfl, (zM E_k E2a), fun h3 E3 => ⟨hkl, by rw [take_snoc hkl, List.filter_append, List.filter_cons_of_pos (by exact hd), List.flatMap_append]; exact ha2⟩, by first | omega | (dsimp only; omega), ?_⟩
   repeat (first | exact qY _ _ _ | refine wG (by decide) ?_ | refine qX rfl ?_ | refine wH rfl ?_)
  ·skip
   refine qO ?_
   refine qB rfl ?_
   refine qA (qC (v := .int .i64 _) rfl) ?_
   refine qA (qT rfl (by omega)) ?_
   refine qA (qE (v := .int .i64 _) rfl) ?_
   refine ⟨(k + 1, a), ⟨rfl, rfl, trivial⟩, rfl, rfl, E_k, fun h3 E3 => ⟨hkl, by rw [take_snoc hkl, List.filter_append, List.filter_cons_of_neg (by rw [hd]; decide), List.filter_nil, List.append_nil]; exact K2⟩, by first | omega | (dsimp only; omega), ?_⟩
   repeat (first | exact qY _ _ _ | refine wG (by decide) ?_ | refine qX rfl ?_ | refine wH rfl ?_)
 ·skip
  have hke : k = l.length := by have := geI hk; omega
  subst hke
  rw [List.take_length] at K2
  obtain ⟨f1, hf1⟩ : ∃ f1, f1 = (l.filter fun x => decide (x < n)) := ⟨_, rfl⟩
  have hf1l : f1.length ≤ l.length := by rw [hf1]; exact List.length_filter_le _ _
  rw [← hf1] at K2 ⊢
  refine wV ?_
  refine qD ?_
  refine qB rfl ?_
  refine qA (qC (v := .slice _ _ _) rfl) ?_
  refine qA (qC (v := .int .i64 _) rfl) ?_
  refine wD (zc := [_]) (vs := [(0, .int .i64 _)]) (cs := [_]) rfl rfl rfl rfl rfl rfl rfl fun b29 hb29 => ?_
  refine qK [_, _] rfl ?_
  refine wZ 0 K2 rfl rfl rfl (fun V => rdP V (i := 1) rfl) rfl rfl rfl rfl rfl rfl rfl rfl rfl (by omega) rfl (by rw [wU (m := 1) (fun _ _ => rfl)]; simp; omega) fun a0 h3a E3a ha0 => ?_
  refine qK [_, _] rfl ?_
  refine qA (qE (v := .slice _ _ _) rfl) ?_
  refine qD ?_
  refine qD ?_
  refine qB rfl ?_
  refine qA (qE (v := .int .i64 _) rfl) ?_
  refine qP ?_
  refine xp_loopL [5, 7, 31, 32, 33, 34, 35, 36, 37, 38, 39, 40, 41, 42, 43, 44, 45, 46, 47, 48, 49] 2 (α := Nat × Acc) (fun ⟨j, a3⟩ => [(7, .int .i64 j), (5, .slice a3.A a3.n a3.c)]) (fun ⟨j, a3⟩ L => L.set 0 (a3.p)) (fun ⟨j, a3⟩ h_j => j ≤ l.length ∧ AccR 3 1 ((f1 ++ [n] ++ (l.take j).filter fun x => decide (x > n)).flatMap intC) a3) (fun ⟨j, a3⟩ => l.length - j) ((0, a0)) ⟨rfl, rfl, trivial⟩ (rfl) (⟨Nat.zero_le _, by rw [List.take_zero, List.filter_nil, List.append_nil, List.flatMap_append]; exact ha0⟩) ?_
  rintro ⟨j, a3⟩ T4 h_j E_j J_j
  refine qS [_, _] rfl ?_
  obtain ⟨K3, K4⟩ := J_j
  refine qD ?_
  refine qD ?_
  refine qB rfl ?_
  refine qA (qC (v := .int .i64 _) rfl) ?_
  refine qA (qC (v := .slice _ _ _) rfl) ?_
  refine qA (wP rfl rfl) ?_
  refine qA (qL (v := .bool _) rfl) ?_
  refine qR rfl (fun hj => ?_) (fun hj => ?_)
  ·skip
   have hjl : j < l.length := ltI hj
   obtain ⟨g, off, hA, hc⟩ := (R.ext (zM (zM E_k E3a) E_j)).at (by omega) hjl
   have hfl : ((f1 ++ [n] ++ (l.take j).filter fun x => decide (x > n)).flatMap intC).length ≤ f1.length + 1 + j := by rw [wU (m := 1) (fun _ _ => rfl), List.length_append, List.length_append]; have := List.length_filter_le (fun x => decide (x > n)) (l.take j); rw [List.length_take] at this; simp only [List.length_cons, List.length_nil]; omega
   refine qO ?_
   refine qD ?_
   refine qP ?_
   refine qD ?_
   refine qB rfl ?_
   refine qA (qC (v := .slice _ _ _) rfl) ?_
   refine qA (qC (v := .int .i64 _) rfl) ?_
   refine qA (wO rfl hA rfl rfl rfl (by omega) (by omega)) ?_
   refine wT (v := .int .i64 _) rfl rfl ((hc) 0 _ rfl) ?_
   refine qA (qC (v := .int .i64 _) rfl) ?_
   refine qA (qL (v := .bool _) rfl) ?_
   refine qR rfl (fun hd => ?_) (fun hd => ?_)
   ·skip
    obtain ⟨g2, off2, hA2, hc2⟩ := (R.ext (zM (zM E_k E3a) E_j)).at (by omega) hjl
    refine qB rfl ?_
    refine qA (qC (v := .slice _ _ _) rfl) ?_
    refine qA (qC (v := .slice _ _ _) rfl) ?_
    refine qA (qC (v := .int .i64 _) rfl) ?_
    refine qA (wO rfl hA2 rfl rfl rfl (by omega) (by omega)) ?_
    refine wT (v := .int .i64 _) rfl rfl ((hc2) 0 _ rfl) ?_
    refine wD (zc := [_]) (vs := [(0, .int .i64 _)]) (cs := [_]) rfl rfl rfl rfl rfl rfl rfl fun b48 hb48 => ?_
    refine qK [_, _, _] rfl ?_
    refine wZ 0 K4 rfl rfl rfl (fun V => rdP V (i := 2) rfl) rfl rfl rfl rfl rfl rfl rfl rfl rfl (by omega) rfl (by simp only [List.length_cons, List.length_nil]; omega) fun a2 h5a E5a ha2 => ?_
    refine qK [_, _, _] rfl ?_
    refine qA (qE (v := .slice _ _ _) rfl) ?_
    refine qB rfl ?_
    refine qA (qC (v := .int .i64 _) rfl) ?_
    refine qA (qT rfl (by omega)) ?_
    refine qA (qE (v := .int .i64 _) rfl) ?_
    refine ⟨(j + 1, a2), ⟨rfl, rfl, trivial⟩, rfl, rfl, (zM E_j E5a), fun h3 E3 => ⟨hjl, by rw [take_snoc hjl, List.filter_append, List.filter_cons_of_pos (by exact hd), List.filter_nil, ← List.append_assoc, List.flatMap_append]; exact ha2⟩, by first | omega | (dsimp only; omega), ?_⟩
    repeat (first | exact qY _ _ _ | refine wG (by decide) ?_ | refine qX rfl ?_ | refine wH rfl ?_)
   ·skip
    refine qO ?_
    refine qB rfl ?_
    refine qA (qC (v := .int .i64 _) rfl) ?_
    refine qA (qT rfl (by omega)) ?_
    refine qA (qE (v := .int .i64 _) rfl) ?_
    refine ⟨(j + 1, a3), ⟨rfl, rfl, trivial⟩, rfl, rfl, E_j, fun h3 E3 => ⟨hjl, by rw [take_snoc hjl, List.filter_append, List.filter_cons_of_neg (by rw [hd]; decide), List.filter_nil, List.append_nil]; exact K4⟩, by first | omega | (dsimp only; omega), ?_⟩
    repeat (first | exact qY _ _ _ | refine wG (by decide) ?_ | refine qX rfl ?_ | refine wH rfl ?_)
  ·skip
   have hje : j = l.length := by have := geI hj; omega
   subst hje
   rw [List.take_length] at K4
   refine wV ?_
   refine qD ?_
   refine qB rfl ?_
   refine qA (qC (v := .slice _ _ _) rfl) ?_
   refine qA (qE (v := .slice _ _ _) rfl) ?_
   refine qV ?_
   refine qN (vs := [_]) Try.results127 ⟨qM rfl rfl, trivial⟩ fun V => ?_
   exact ⟨(zM (zM (zM E_k E3a) E_j) (qQ V)), AccP.row (i := 0) K4 (by omega) (fun _ _ => rfl) V rfl⟩
end
end Go.Proofs.Ythphpbdmbmiaiaa
namespace Go.HL
open Go Go.Conc
variable [Lvl]
section
variable {P : Program} {n : Nat} {ops : Array Oper} {os : List Oper} {K : Sl → Pv → AH → Prop} {E : Value → Sl → Pv → AH → Prop} {S : Sl} {L : Pv} {h : AH} {d : Option Tmp} {ty : TypeId} {ps : String} {af : Array Edge}
theorem op_panic {x : Operand} {t : TypeId} {v : Value} (hx : ev n S x = .iface t v) (e : E (.iface t v) S L h) : wpL P n ops (⟨d, .panic x, ty, ps, af, none⟩ :: os) K E S L h := by
 refine op_of fun V => ?_
 unfold opW
 simp only [execOp, hx]
 exact ⟨L, h, rfl, V, e⟩
def FnE (P : Program) (f : FuncId) (args : Array Value) (h : AH) (R Q : Value → AH → Prop) : Prop := CallT P f args h (fun v h' => Ext h h' ∧ R v h') (fun v h' => Ext h h' ∧ Q v h')
theorem FnE.of {f : FuncId} {args : Array Value} {R Q : Value → AH → Prop} (c : FnT P f args h R) : FnE P f args h R Q := CallT.mono c (fun _ _ r => r) (fun _ _ y => y.elim)
end
section
variable {P : Program} {n : Nat} {S : Sl} {D : Df} {L : Pv} {h : AH} {ops : Array Oper} {i : Nat} {rest : List Nat} {o : Oper} {b : Frame} {k : List Item} {cs : List Frame} {w : World} {main : Bool}
def laterF (g : FuncId) (caps : Array Value) : Deferred := { target := .fn (.func g) caps, args := #[] }
theorem step_deferF {x : Operand} {g : FuncId} {caps : Array Value} {ats : Array TypeId} (ho : ops[i]? = some o) (hw : Region.wanted o (yielded ops (arr n S)) = true) (hop : o.op = .defer { callee := .value x, args := #[], argTypes := ats }) (hx : ev n S x = .func (.func g) #[] caps) (hro : b.roundOf = none) :
  stepG P main (G (mk b n S D (.inRegion ops (i :: rest) :: k)) cs) w = .go (G (mk b n (put S o.dst undef) (laterF g caps :: D) (.inRegion ops rest :: k)) cs) w := by
 have he := mk_eval b n S D (.inRegion ops (i :: rest) :: k)
 simp only [mk, hro] at he
 have hr : (execOp (ev n S) o).runT P w #[] = (.ok (.defer (laterF g caps)) w, #[]) := by
  unfold execOp
  simp only [hop, resolve, Deferred.ofValue, hx]
  simp [bind, pure, Sem.bind, Sem.runT, -Sem.runT_eq, laterF]
 have hf := mk_finish (n := n) b S (laterF g caps :: D) ops i rest k o ho undef
 have e1 : stepG P main (G (mk b n S D (.inRegion ops (i :: rest) :: k)) cs) w = stepG.apply P true (mk b n S D (.inRegion ops (i :: rest) :: k)) cs none (execOp (ev n S) o) w := by
  simp only [stepG, stepG.exec, stepG.oper, Frame.oper?, mk, ho, he, Option.map_some, Option.getD_some, hw, if_true, hro]
 rw [e1]
 unfold stepG.apply
 simp only [hr, if_true]
 have hf2 : Frame.finish { mk b n S D (.inRegion ops (i :: rest) :: k) with defers := laterF g caps :: (mk b n S D (.inRegion ops (i :: rest) :: k)).defers } undef = mk b n (put S o.dst undef) (laterF g caps :: D) (.inRegion ops rest :: k) := hf
 rw [hf2]
 split <;> simp_all [seen_nil, after_nil]
theorem goes_deferF {K : Post} {x : Operand} {g : FuncId} {caps : Array Value} {ats : Array TypeId} (ho : ops[i]? = some o) (hw : Region.wanted o (yielded ops (arr n S)) = true) (hop : o.op = .defer { callee := .value x, args := #[], argTypes := ats }) (hx : ev n S x = .func (.func g) #[] caps)
  (g2 : Goes P n none [.inRegion ops rest] K (put S o.dst undef) (laterF g caps :: D) L h) : Goes P n none [.inRegion ops (i :: rest)] K S D L h := by
 intro H V b hb k cs
 refine .ctl (fr' := mk b n (put S o.dst undef) (laterF g caps :: D) ([.inRegion ops rest] ++ k)) (cs' := cs) (fun main w => step_deferF ho hw hop hx hb) ?_
 have V' : Fits h L (laterF g caps :: D) H := ⟨V.valid, V.disj, V.nd, V.eq⟩
 exact g2 H V' b hb k cs
theorem step_later {g : FuncId} {gn : Func} {c : Code} {caps : Array Value} {md : FrameMode} {todo : List Item} (hg : P.funcs[g]? = some gn) (hname : (gn.name == "runtime.NumGoroutine") = false) (hb : gn.body = some c) (hmd : md = .returning ∨ ∃ ch, md = .panicking ch) :
  stepG P main (G { mk b n S (laterF g caps :: D) todo with mode := md } cs) w = .go (G (Frame.enter P g caps .deferred) ({ mk b n S D todo with mode := md } :: cs)) w := by
 have h1 : ¬ gn.name = "runtime.NumGoroutine" := by simpa using hname
 rcases hmd with rfl | ⟨ch, rfl⟩
 ·simp [stepG, unwind, callDeferred, laterF, mk, invoke, callFunc, hg, h1, hb, GStep.after, seen_none]
 ·simp [stepG, unwind, callDeferred, laterF, mk, invoke, callFunc, hg, h1, hb, GStep.after, seen_none]
theorem exec_recover {ats : Array TypeId} (hop : o.op = .call { callee := .builtin .recover, args := #[], argTypes := ats }) : (execOp (ev n S) o).runT P w #[] = (.ok .recover w, #[]) := by
 unfold execOp
 simp only [hop, resolve, invoke, builtin]
 simp [bind, pure, Sem.bind, Sem.runT, -Sem.runT_eq]
theorem step_recover {ats : Array TypeId} {v : Value} {older : List PanicEntry} {c0 : Frame} (ho : ops[i]? = some o) (hw : Region.wanted o (yielded ops (arr n S)) = true) (hop : o.op = .call { callee := .builtin .recover, args := #[], argTypes := ats }) (hbk : b.kind = .deferred) (hro : b.roundOf = none)
  (hm : c0.mode = .panicking ({ v := v, recovered := false } :: older)) :
  stepG P main (G (mk b n S D (.inRegion ops (i :: rest) :: k)) (c0 :: cs)) w = .go (G (mk b n (put S o.dst v) D (.inRegion ops rest :: k)) ({ c0 with mode := .panicking ({ v := v, recovered := true } :: older) } :: cs)) w := by
 have he := mk_eval b n S D (.inRegion ops (i :: rest) :: k)
 simp only [mk, hro] at he
 have hf := mk_finish (n := n) b S D ops i rest k o ho v
 have e1 : stepG P main (G (mk b n S D (.inRegion ops (i :: rest) :: k)) (c0 :: cs)) w = stepG.apply P true (mk b n S D (.inRegion ops (i :: rest) :: k)) (c0 :: cs) none (execOp (ev n S) o) w := by
  simp only [stepG, stepG.exec, stepG.oper, Frame.oper?, mk, ho, he, Option.map_some, Option.getD_some, hw, if_true, hro, hop]
 have e2 : tryRecover (mk b n S D (.inRegion ops (i :: rest) :: k)) (c0 :: cs) = some (v, { c0 with mode := .panicking ({ v := v, recovered := true } :: older) } :: cs) := by
  simp only [tryRecover, mk, hbk, hm]
 have e3 : (mk b n S D (.inRegion ops (i :: rest) :: k)).roundOf = none := hro
 rw [e1]
 unfold stepG.apply
 simp only [exec_recover hop, if_true, e3, e2, hf]
 split <;> simp_all [seen_nil, after_nil]
theorem step_norec {ats : Array TypeId} {c0 : Frame} (ho : ops[i]? = some o) (hw : Region.wanted o (yielded ops (arr n S)) = true) (hop : o.op = .call { callee := .builtin .recover, args := #[], argTypes := ats }) (hbk : b.kind = .deferred) (hro : b.roundOf = none)
  (hm : c0.mode = .returning) :
  stepG P main (G (mk b n S D (.inRegion ops (i :: rest) :: k)) (c0 :: cs)) w = .go (G (mk b n (put S o.dst .nilIface) D (.inRegion ops rest :: k)) (c0 :: cs)) w := by
 have he := mk_eval b n S D (.inRegion ops (i :: rest) :: k)
 simp only [mk, hro] at he
 have hf := mk_finish (n := n) b S D ops i rest k o ho .nilIface
 have e1 : stepG P main (G (mk b n S D (.inRegion ops (i :: rest) :: k)) (c0 :: cs)) w = stepG.apply P true (mk b n S D (.inRegion ops (i :: rest) :: k)) (c0 :: cs) none (execOp (ev n S) o) w := by
  simp only [stepG, stepG.exec, stepG.oper, Frame.oper?, mk, ho, he, Option.map_some, Option.getD_some, hw, if_true, hro, hop]
 have e2 : tryRecover (mk b n S D (.inRegion ops (i :: rest) :: k)) (c0 :: cs) = none := by
  simp only [tryRecover, mk, hbk, hm]
 have e3 : (mk b n S D (.inRegion ops (i :: rest) :: k)).roundOf = none := hro
 rw [e1]
 unfold stepG.apply
 simp only [exec_recover hop, if_true, e3, e2, hf]
 split <;> simp_all [seen_nil, after_nil]
theorem step_back {g : FuncId} {gn : Func} {c0 : Frame} {todo : List Item} {v : Value} (hg : P.funcs[g]? = some gn) (hres : gn.results = #[]) (hbf : b.fn = g) (hbk : b.kind = .deferred) (hm : c0.mode = .returning ∨ c0.mode = .panicking [{ v := v, recovered := true }]) :
  stepG P main (G { mk b n S [] todo with mode := .returning } (c0 :: cs)) w = .go (G { c0 with mode := .returning } cs) w := by
 subst hbf
 have hr : ∀ w, (results gn (arr n S)).runT P w #[] = (.ok (.tuple #[]) w, #[]) := fun w => by
  exact Prod.ext ((Sem.runT_fst _ _ _ _).trans (results_none hres _ P w)) (events_results_none hres _ _)
 rcases hm with hm | hm
 ·have e : c0 = { c0 with mode := .returning } := by cases c0; simp at hm; subst hm; rfl
  simp only [stepG, unwind, mk, hg, hr w, doReturn, hbk, hm]
  simp [seen_nil, after_nil]
  exact e
 ·simp only [stepG, unwind, mk, hg, hr w, doReturn, hbk, hm]
  simp [seen_nil, after_nil]
end
section
variable {P : Program} {n : Nat} {K : Value → AH → Prop}
def Clo (P : Program) (m : Nat) (ops0 : Array Oper) (c2 : Code) (t : Tmp) (x : Value) (caps : Array Value) (L : Pv) (h : AH) (Q : Pv → AH → Prop) : Prop :=
 Nat.ble caps.size m = true ∧ Goes P m none ([.inRegion ops0 [1]] ++ [.code c2]) (fun e _ D L' h' => (e = .normal ∨ e = .ret) ∧ D = [] ∧ Q L' h') (put (argS caps) (some t) x) [] L h
def doneK (P : Program) (n : Nat) (fn : Func) (K : Value → AH → Prop) (S : Sl) (L : Pv) (h : AH) : Prop := Valid h L → dem P (results fn (arr n S)) (wl h L) K noE
def deferK (P : Program) (n : Nat) (fn : Func) (K : Value → AH → Prop) (g : FuncId) (m : Nat) (ops0 : Array Oper) (c2 : Code) (t : Tmp) : Post
 | .normal, S, D, L, h => (D = [] ∧ doneK P n fn K S L h) ∨ ∃ caps, D = [laterF g caps] ∧ Clo P m ops0 c2 t .nilIface caps L h (fun L2 h2 => doneK P n fn K S L2 h2)
 | .ret, S, D, L, h => (D = [] ∧ doneK P n fn K S L h) ∨ ∃ caps, D = [laterF g caps] ∧ Clo P m ops0 c2 t .nilIface caps L h (fun L2 h2 => doneK P n fn K S L2 h2)
 | .panic v, S, D, L, h => ∃ caps, D = [laterF g caps] ∧ Clo P m ops0 c2 t v caps L h (fun L2 h2 => doneK P n fn K S L2 h2)
 | .exit _, _, _, _, _ => False
theorem call_defer {f : FuncId} {fn : Func} {c : Code} {args : Array Value} {h : AH} (hf : P.funcs[f]? = some fn) (hb : fn.body = some c) (hn : fn.ntmps = n) (ha : Nat.ble args.size n = true)
  {g : FuncId} {gn : Func} {id0 : Nat} {ops0 : Array Oper} {c2 : Code} {m : Nat} {o0 : Oper} {t : Tmp} {ats : Array TypeId} (hg : P.funcs[g]? = some gn) (hname : (gn.name == "runtime.NumGoroutine") = false) (hgb : gn.body = some (.seq (.region id0 ops0 false) c2)) (hgm : gn.ntmps = m) (hres : gn.results = #[])
  (h0 : ops0[0]? = some o0) (hop : o0.op = .call { callee := .builtin .recover, args := #[], argTypes := ats }) (hd : o0.dst = some t) (hgd : o0.guard = none) (hsz : ops0.size = 2)
  (w : xp P n none c (deferK P n fn K g m ops0 c2 t) (argS args) [] [] h) : CallT P f args h K noE := by
 intro hfin c0 cs
 have he : Frame.enter P f args .normal = mk { (default : Frame) with fn := f, kind := .normal, roundOf := none } n (argS args) [] [.code c] := by
  simp [Frame.enter, mk, hf, hb, hn, enter_tmps n args (Nat.le_of_ble_eq_true ha)]
 rw [he]
 have w1 := w h (by have := Fits.nil (valid_nil hfin); rw [wl_nil] at this; exact this) { (default : Frame) with fn := f, kind := .normal, roundOf := none } rfl [] (c0 :: cs)
 obtain ⟨b, hbdef⟩ : ∃ b : Frame, b = { (default : Frame) with fn := f, kind := .normal, roundOf := none } := ⟨_, rfl⟩
 have hbf : b.fn = f := by rw [hbdef]
 have hbk : b.kind = .normal := by rw [hbdef]
 have hbr : b.roundOf = none := by rw [hbdef]
 rw [← hbdef] at w1 ⊢
 -- the way back, when nothing is put off any more
 have back : ∀ (S : Sl) (L : Pv) (h' H : AH) (todo : List Item), Fits h' L [] H → doneK P n fn K S L h' →
   Rch P (fun fr cs' h' => cs' = cs ∧ ((∃ v, fr = c0.finish v ∧ K v h') ∨ (∃ v, fr = c0.raise [{ v := v, recovered := false }] ∧ noE v h'))) { mk b n S [] todo with mode := .returning } (c0 :: cs) H := by
  intro S L h' H todo V kk
  refine ret_run hf c0 cs b hbf hbk S L todo [] h' H V rfl (fun h2 _ e V2 => ?_)
  rw [e rfl] at V2 ⊢
  exact kk V2
 -- the closure is run
 have run : ∀ (S : Sl) (L : Pv) (h' H : AH) (todo : List Item) (caps : Array Value) (x : Value) (md md' : FrameMode), Fits h' L [laterF g caps] H → (md = .returning ∨ ∃ ch, md = .panicking ch) →
   (∀ (b' : Frame) (S' : Sl) (k : List Item) (c1 : Frame) (cs' : List Frame) main w, c1.mode = md → b'.kind = .deferred → b'.roundOf = none → stepG P main (G (mk b' m S' [] (.inRegion ops0 (0 :: [1]) :: k)) (c1 :: cs')) w = .go (G (mk b' m (put S' o0.dst x) [] (.inRegion ops0 [1] :: k)) ({ c1 with mode := md' } :: cs')) w) →
   (md' = .returning ∨ md' = .panicking [{ v := x, recovered := true }]) →
   Clo P m ops0 c2 t x caps L h' (fun L2 h2 => doneK P n fn K S L2 h2) →
   Rch P (fun fr cs' h' => cs' = cs ∧ ((∃ v, fr = c0.finish v ∧ K v h') ∨ (∃ v, fr = c0.raise [{ v := v, recovered := false }] ∧ noE v h'))) { mk b n S [laterF g caps] todo with mode := md } (c0 :: cs) H := by
  intro S L h' H todo caps x md md' V hmd hrec hmd' clo
  obtain ⟨hcs, clo⟩ := clo
  have hH : Fits h' L [] H := ⟨V.valid, by rw [mkH_nil]; exact disj_nil _, List.nodup_nil, by rw [V.eq]; rfl⟩
  refine .ctl (fr' := Frame.enter P g caps .deferred) (cs' := { mk b n S [] todo with mode := md } :: c0 :: cs) (fun main w => step_later hg hname hgb hmd) ?_
  have he2 : Frame.enter P g caps .deferred = mk { (default : Frame) with fn := g, kind := .deferred, roundOf := none } m (argS caps) [] [.code (.seq (.region id0 ops0 false) c2)] := by
   simp [Frame.enter, mk, hg, hgb, hgm, enter_tmps m caps (Nat.le_of_ble_eq_true hcs)]
  rw [he2]
  refine .ctl (fr' := mk { (default : Frame) with fn := g, kind := .deferred, roundOf := none } m (argS caps) [] [.code (.region id0 ops0 false), .code c2]) (cs' := { mk b n S [] todo with mode := md } :: c0 :: cs) (fun main w => by simp [stepG, stepG.exec, mk]) ?_
  refine .ctl (fr' := mk { (default : Frame) with fn := g, kind := .deferred, roundOf := none } m (argS caps) [] [.inRegion ops0 (0 :: [1]), .code c2]) (cs' := { mk b n S [] todo with mode := md } :: c0 :: cs) (fun main w => by simp [stepG, stepG.exec, mk, hsz]; rfl) ?_
  refine .ctl (fr' := mk { (default : Frame) with fn := g, kind := .deferred, roundOf := none } m (put (argS caps) (some t) x) [] ([.inRegion ops0 [1]] ++ [.code c2] ++ [])) (cs' := { mk b n S [] todo with mode := md' } :: c0 :: cs) (fun main w => by rw [← hd]; exact hrec _ _ _ _ _ main w rfl rfl rfl) ?_
  refine (clo H hH _ rfl [] ({ mk b n S [] todo with mode := md' } :: c0 :: cs)).bind ?_
  rintro fr cs' H' ⟨rfl, e, S', D', L', h2, V', ⟨hex, rfl, q⟩, a⟩
  have fin : ∀ todo', Rch P (fun fr cs' h' => cs' = cs ∧ ((∃ v, fr = c0.finish v ∧ K v h') ∨ (∃ v, fr = c0.raise [{ v := v, recovered := false }] ∧ noE v h'))) { mk { (default : Frame) with fn := g, kind := .deferred, roundOf := none } m S' [] todo' with mode := .returning } ({ mk b n S [] todo with mode := md' } :: c0 :: cs) H' := fun todo' => by
   refine .ctl (fr' := { mk b n S [] todo with mode := .returning }) (cs' := c0 :: cs) (fun main w => step_back (c0 := { mk b n S [] todo with mode := md' }) (v := x) hg hres rfl rfl hmd') (back S L' h2 H' todo V' q)
  rcases hex with rfl | rfl
  ·have a' : fr = mk { (default : Frame) with fn := g, kind := .deferred, roundOf := none } m S' [] [] := a
   subst a'
   exact .ctl (fr' := { mk { (default : Frame) with fn := g, kind := .deferred, roundOf := none } m S' [] [] with mode := .returning }) (cs' := { mk b n S [] todo with mode := md' } :: c0 :: cs) (fun main w => by simp [stepG, stepG.exec, mk]) (fin [])
  ·obtain ⟨todo', rfl⟩ := a.1 rfl
   exact fin todo'
 have hw0 : ∀ S' : Sl, Region.wanted o0 (yielded ops0 (arr m S')) = true := fun S' => by simp [Region.wanted, hgd]
 have ret : ∀ (S : Sl) (D : Df) (L : Pv) (h' H : AH) (todo : List Item), Fits h' L D H → ((D = [] ∧ doneK P n fn K S L h') ∨ ∃ caps, D = [laterF g caps] ∧ Clo P m ops0 c2 t .nilIface caps L h' (fun L2 h2 => doneK P n fn K S L2 h2)) →
   Rch P (fun fr cs' h' => cs' = cs ∧ ((∃ v, fr = c0.finish v ∧ K v h') ∨ (∃ v, fr = c0.raise [{ v := v, recovered := false }] ∧ noE v h'))) { mk b n S D todo with mode := .returning } (c0 :: cs) H := by
  rintro S D L h' H todo V (⟨rfl, kk⟩ | ⟨caps, rfl, clo⟩)
  ·exact back S L h' H todo V kk
  ·refine run S L h' H todo caps .nilIface .returning .returning V (.inl rfl) ?_ (.inl rfl) clo
   intro b' S' k c1 cs' main w hm hk hr
   have hc1 : c1 = { c1 with mode := .returning } := by cases c1; simp at hm; subst hm; rfl
   rw [← hc1]
   exact step_norec h0 (hw0 S') hop hk hr hm
 refine w1.bind ?_
 rintro fr cs' H ⟨rfl, e, S', D', L', h', V', kk, a⟩
 cases e with
 | normal =>
  have a' : fr = mk b n S' D' [] := a
  subst a'
  exact .ctl (fr' := { mk b n S' D' [] with mode := .returning }) (cs' := c0 :: cs) (fun main w => by simp [stepG, stepG.exec, mk, hbr]) (ret S' D' L' h' H [] V' kk)
 | ret =>
  obtain ⟨todo, rfl⟩ := a.1 (by rw [hbdef])
  exact ret S' D' L' h' H todo V' kk
 | panic v =>
  obtain ⟨todo, rfl⟩ := a
  obtain ⟨caps, rfl, clo⟩ := kk
  refine run S' L' h' H todo caps v (.panicking [{ v := v, recovered := false }]) (.panicking [{ v := v, recovered := true }]) V' (.inr ⟨_, rfl⟩) ?_ (.inr rfl) clo
  intro b' S2 k c1 cs' main w hm hk hr
  exact step_recover h0 (hw0 S2) hop hk hr hm
 | exit id => exact kk.elim
end
end Go.HL
namespace Go.HL
open Go
variable [Lvl]
section
variable {P : Program} {n : Nat} {d : Option Tmp} {ty : TypeId} {ps : String} {af : Array Edge} {S : Sl}
theorem pv_sliceHi {x hi : Operand} {t e : TypeId} {m len cap : Nat} {A : Option Addr} (j : Nat) {k2 : IntKind} {j' : Int} (hx : ev n S x = .slice A len cap) (hh : ev n S hi = .int k2 j') (ej : j' = j) (ht : pev P (underlying t) = some (.slice e)) (hs : pev P (sizeOf e) = some m) (hjc : j ≤ cap) :
  pev P (execOp (ev n S) ⟨d, .slice t x none (some hi) none, ty, ps, af, none⟩) = some (.value (.slice A j cap)) := by
 subst ej
 simp only [execOp, hx, hh, Option.map]
 refine (zG (a := .slice A j cap) ?_).trans rfl
 unfold Instr.sliceAt
 refine (wJ ht).trans ?_
 simp only
 unfold Instr.slice
 refine (wJ ht).trans ?_
 simp only
 have hb : pev P (Instr.sliceBounds true len cap none (some (.int k2 (j : Int))) none) = some (0, j, cap) := by
  unfold Instr.sliceBounds
  refine (wJ (a := cap) rfl).trans ?_
  have h1 : pev P (Instr.sliceBound (.int k2 (j : Int)) cap .sliceAcap) = some j := by
   unfold Instr.sliceBound
   refine (wJ (a := (k2, (j : Int))) rfl).trans ?_
   simp only
   rw [if_pos ⟨by omega, by omega⟩]
   rfl
  refine (wJ h1).trans ?_
  rfl
 refine (wJ hb).trans ?_
 simp only
 refine (wJ hs).trans ?_
 have e0 : (if cap = 0 then A else A.map (·.add (0 * m))) = A := by
  split
  ·rfl
  ·cases A <;> simp [Addr.add]
 show some (Value.slice (if cap = 0 then A else A.map (·.add (0 * m))) (j - 0) (cap - 0)) = _
 rw [e0]
 rfl
theorem pv_sliceLo {x lo : Operand} {t e : TypeId} {m len cap : Nat} {A : Option Addr} (i : Nat) {k : IntKind} {i' : Int} (hx : ev n S x = .slice A len cap) (hl : ev n S lo = .int k i') (ei : i' = i) (ht : pev P (underlying t) = some (.slice e)) (hs : pev P (sizeOf e) = some m) (hij : i ≤ len) (hc : len ≤ cap) :
  pev P (execOp (ev n S) ⟨d, .slice t x (some lo) none none, ty, ps, af, none⟩) = some (.value (.slice (if cap = i then A else A.map (·.add (i * m))) (len - i) (cap - i))) := by
 subst ei
 simp only [execOp, hx, hl, Option.map]
 refine (zG (a := .slice (if cap = i then A else A.map (·.add (i * m))) (len - i) (cap - i)) ?_).trans rfl
 unfold Instr.sliceAt
 refine (wJ ht).trans ?_
 simp only
 unfold Instr.slice
 refine (wJ ht).trans ?_
 simp only
 have hb : pev P (Instr.sliceBounds true len cap (some (.int k (i : Int))) none none) = some (i, len, cap) := by
  unfold Instr.sliceBounds
  refine (wJ (a := cap) rfl).trans ?_
  have h1 : ∀ f, pev P (Instr.sliceBound (.int .i64 (len : Int)) cap f) = some len := by
   intro f
   unfold Instr.sliceBound
   refine (wJ (a := (IntKind.i64, (len : Int))) rfl).trans ?_
   simp only
   rw [if_pos ⟨by omega, by omega⟩]
   rfl
  have h2 : pev P (Instr.sliceBound (.int k (i : Int)) len .sliceB) = some i := by
   unfold Instr.sliceBound
   refine (wJ (a := (k, (i : Int))) rfl).trans ?_
   simp only
   rw [if_pos ⟨by omega, by omega⟩]
   rfl
  first
  | (refine (wJ (a := len) rfl).trans ?_; refine (wJ h2).trans ?_; rfl)
  | (refine (wJ (a := len) (h1 _)).trans ?_; refine (wJ h2).trans ?_; rfl)
 refine (wJ hb).trans ?_
 simp only
 refine (wJ hs).trans ?_
 rfl
end
end Go.HL
namespace Go.HL
open Go
variable [Lvl]
section
variable {P : Program} {n : Nat} {d : Option Tmp} {ty : TypeId} {ps : String} {af : Array Edge} {S : Sl}
theorem pv_slice3 {x lo hi mx : Operand} {t e : TypeId} {m len cap : Nat} {A : Option Addr} (i j q : Nat) {k k2 k3 : IntKind} {i' j' q' : Int} (hx : ev n S x = .slice A len cap) (hl : ev n S lo = .int k i') (hh : ev n S hi = .int k2 j') (hm : ev n S mx = .int k3 q') (ei : i' = i) (ej : j' = j) (eq : q' = q) (ht : pev P (underlying t) = some (.slice e)) (hs : pev P (sizeOf e) = some m) (hij : i ≤ j) (hjq : j ≤ q) (hqc : q ≤ cap) :
  pev P (execOp (ev n S) ⟨d, .slice t x (some lo) (some hi) (some mx), ty, ps, af, none⟩) = some (.value (.slice (if q = i then A else A.map (·.add (i * m))) (j - i) (q - i))) := by
 subst ei ej eq
 simp only [execOp, hx, hl, hh, hm, Option.map]
 refine (zG (a := .slice (if q = i then A else A.map (·.add (i * m))) (j - i) (q - i)) ?_).trans rfl
 unfold Instr.sliceAt
 refine (wJ ht).trans ?_
 simp only
 unfold Instr.slice
 refine (wJ ht).trans ?_
 simp only
 have hb : pev P (Instr.sliceBounds true len cap (some (.int k (i : Int))) (some (.int k2 (j : Int))) (some (.int k3 (q : Int)))) = some (i, j, q) := by
  unfold Instr.sliceBounds
  have h0 : pev P (Instr.sliceBound (.int k3 (q : Int)) cap .slice3Acap) = some q := by
   unfold Instr.sliceBound
   refine (wJ (a := (k3, (q : Int))) rfl).trans ?_
   simp only
   rw [if_pos ⟨by omega, by omega⟩]
   rfl
  have h1 : pev P (Instr.sliceBound (.int k2 (j : Int)) q .slice3B) = some j := by
   unfold Instr.sliceBound
   refine (wJ (a := (k2, (j : Int))) rfl).trans ?_
   simp only
   rw [if_pos ⟨by omega, by omega⟩]
   rfl
  have h2 : pev P (Instr.sliceBound (.int k (i : Int)) j .slice3C) = some i := by
   unfold Instr.sliceBound
   refine (wJ (a := (k, (i : Int))) rfl).trans ?_
   simp only
   rw [if_pos ⟨by omega, by omega⟩]
   rfl
  refine (wJ h0).trans ?_
  refine (wJ h1).trans ?_
  refine (wJ h2).trans ?_
  rfl
 refine (wJ hb).trans ?_
 simp only
 refine (wJ hs).trans ?_
 rfl
end
section
variable {P : Program} {n : Nat} {ops : Array Oper} {os : List Oper} {K : Sl → Pv → AH → Prop} {E : Value → Sl → Pv → AH → Prop} {S : Sl} {L : Pv} {h : AH} {d : Option Tmp} {ty : TypeId} {ps : String} {af : Array Edge}
theorem op_copyP (i : Nat) {sT xT e e' : TypeId} {x y : Operand} {m b o dl dc lx cx k : Nat} {A : Option Addr} {cs cs' xs : List Value} (hx : ev n S x = .slice (some ⟨b, o, none⟩) dl dc) (hy : ev n S y = .slice A lx cx) (hi : L[i]? = some (some (b, .cells cs.toArray e' (0, 0)))) (hk : Nat.min lx dl = k)
  (hr : Valid h L → Rd (wl h L) A xs) (hl : xs.length = k * m) (hp : xs.all plainB = true) (ht : pev P (underlying sT) = some (.slice e)) (hs : pev P (sizeOf e) = some m) (hb : o + xs.length ≤ cs.length) (hw : wrL cs o xs = cs')
  (kk : wpL P n ops os K E (put S d (.int .i64 k)) (L.set i (some (b, .cells cs'.toArray e' (0, 0)))) h) : wpL P n ops (⟨d, .call ⟨.builtin .copy, #[x, y], #[sT, xT]⟩, ty, ps, af, none⟩ :: os) K E S L h := by
 refine op_of fun V => ?_
 unfold opW
 rw [exec_builtin (xs := [x, y]) (vs := [.slice (some ⟨b, o, none⟩) dl dc, .slice A lx cx]) (by simp [hx, hy])]
 refine wA ?_
 show dem P (Builtin.copy_ #[sT, xT] ty #[.slice (some ⟨b, o, none⟩) dl dc, .slice A lx cx]) _ _ _
 unfold Builtin.copy_
 refine qU ht ?_
 simp only
 refine qU (a := lx) rfl (qU hs ?_)
 rw [hk]
 refine wA (rd_cells (hr V) hl ?_)
 refine wA (dem_storeFrom xs _ cs.toArray o 0 (zK V hi) (by simp; omega) hp ?_)
 rw [wl_set V hi, Nat.add_zero, wr_list, hw]
 exact ⟨_, h, rfl, valid_set V hi, kk⟩
theorem op_clearP (i : Nat) {sT e e' : TypeId} {x : Operand} {m b o dl dc : Nat} {cs cs' zc : List Value} {z : Value} (hx : ev n S x = .slice (some ⟨b, o, none⟩) (dl + 1) dc) (hi : L[i]? = some (some (b, .cells cs.toArray e' (0, 0))))
  (ht : pev P (underlying sT) = some (.slice e)) (hz : pev P (zeroValue e) = some z) (hzc : z.cells = zc.toArray) (hp : zc.all plainB = true) (hzl : zc.length = m) (hb : o + (dl + 1) * m ≤ cs.length) (hw : wrL cs o ((List.range ((dl + 1) * m)).map fun i => zc[i % zc.length]!) = cs')
  (kk : wpL P n ops os K E (put S d (.tuple #[])) (L.set i (some (b, .cells cs'.toArray e' (0, 0)))) h) : wpL P n ops (⟨d, .call ⟨.builtin .clear, #[x], #[sT]⟩, ty, ps, af, none⟩ :: os) K E S L h := by
 refine op_of fun V => ?_
 unfold opW
 rw [exec_builtin (xs := [x]) (vs := [.slice (some ⟨b, o, none⟩) (dl + 1) dc]) (by simp [hx])]
 refine wA ?_
 show dem P (Builtin.clear_ #[sT] ty #[.slice (some ⟨b, o, none⟩) (dl + 1) dc]) _ _ _
 unfold Builtin.clear_
 refine qU ht ?_
 show dem P (zeroValue e >>= fun z => ((storeCells ⟨b, o, none⟩ (Builtin.zeroCells z.cells (dl + 1)).toList) >>= fun _ => pure (Value.tuple #[]))) _ _ _
 refine qU hz (wA ?_)
 have e1 : (Builtin.zeroCells z.cells (dl + 1)).toList = (List.range ((dl + 1) * m)).map fun i => zc[i % zc.length]! := by
  rw [hzc]
  unfold Builtin.zeroCells
  rw [List.size_toArray, hzl]
  have := range_map zc ((dl + 1) * m)
  rw [List.size_toArray, hzl] at this
  rw [this, ← hzl]
 rw [e1]
 refine dem_storeFrom _ _ cs.toArray o 0 (zK V hi) (by simp; omega) ?_ ?_
 ·rw [List.all_map, List.all_eq_true]
  intro j _
  rw [List.all_eq_true] at hp
  show plainB (zc[j % zc.length]!) = true
  by_cases h0 : zc.length = 0
  ·rw [List.length_eq_zero_iff.1 h0]; rfl
  ·have hlt := Nat.mod_lt j (Nat.pos_of_ne_zero h0)
   rw [getElem!_pos zc _ hlt]
   exact hp _ (List.getElem_mem hlt)
 ·rw [wl_set V hi, Nat.add_zero, wr_list, hw]
  exact ⟨_, h, rfl, valid_set V hi, kk⟩
theorem op_appendIn (i : Nat) {sT xT e e' e2 : TypeId} {x y : Operand} {m b len cap lx cx : Nat} {A : Option Addr} {cs cs' xs : List Value} (hx : ev n S x = .slice (some ⟨b, 0, none⟩) len cap) (hy : ev n S y = .slice A lx cx) (hi : L[i]? = some (some (b, .cells cs.toArray e' (0, 0))))
  (hr : Valid h L → Rd (wl h L) A xs) (hl : xs.length = lx * m) (hp : xs.all plainB = true) (ht : pev P (underlying sT) = some (.slice e)) (hu : pev P (underlying xT) = some (.slice e2)) (hs : pev P (sizeOf e) = some m) (hc : len + lx ≤ cap) (hb : len * m + xs.length ≤ cs.length) (hw : wrL cs (len * m) xs = cs')
  (kk : wpL P n ops os K E (put S d (.slice (some ⟨b, 0, none⟩) (len + lx) cap)) (L.set i (some (b, .cells cs'.toArray e' (0, 0)))) h) : wpL P n ops (⟨d, .call ⟨.builtin .append, #[x, y], #[sT, xT]⟩, ty, ps, af, none⟩ :: os) K E S L h := by
 refine op_of fun V => ?_
 unfold opW
 rw [exec_builtin (xs := [x, y]) (vs := [.slice (some ⟨b, 0, none⟩) len cap, .slice A lx cx]) (by simp [hx, hy])]
 refine wA ?_
 show dem P (Builtin.append_ #[sT, xT] ty #[.slice (some ⟨b, 0, none⟩) len cap, .slice A lx cx]) _ _ _
 unfold Builtin.append_
 refine qU ht (qU hs ?_)
 refine qU hu (qU (a := false) rfl ?_)
 simp only [Bool.false_eq_true, if_false, Bool.not_false, if_true]
 refine qU (a := lx) rfl ?_
 rw [if_pos hc]
 refine wA (rd_cells (hr V) hl ?_)
 refine wA ?_
 show dem P (storeCells ((⟨b, 0, none⟩ : Addr).add (len * m)) xs) _ _ _
 rw [add_none]
 refine dem_storeFrom xs _ cs.toArray (0 + len * m) 0 (zK V hi) (by simp; omega) hp ?_
 rw [wl_set V hi, Nat.add_zero, wr_list, Nat.zero_add, hw]
 exact ⟨_, h, rfl, valid_set V hi, kk⟩
theorem op_appendMake {sT xT e : TypeId} {x y : Operand} {m len cap k : Nat} {A : Option Addr} {cs : List Value} {z : Value} {zc : List Value} {inf : TypeInfo} {ik : IntKind} {k' : Int} (hx : ev n S x = .slice A len cap) (hy : ev n S y = .int .i64 k') (ek : k' = k)
  (hr : Valid h L → Rd (wl h L) A cs) (hl : cs.length = len * m) (ht : pev P (underlying sT) = some (.slice e)) (hu : pev P (underlying xT) = some (.int ik)) (hi' : pev P (typeInfo e) = some inf) (hs : pev P (sizeOf e) = some m)
  (hz : pev P (zeroValue e) = some z) (hzc : z.cells = zc.toArray) (hzl : zc.length = m) (hm : 0 < m) (hby : Nat.ble inf.bytes 1024 = true) (hsmall : len + k < 2 ^ 30) (hk0 : 0 < k) (hcap : cap < len + k)
  (kk : ∀ (b cap' : Nat) (junk : List Value), wl h L b = none → junk.length + len * m = cap' * m → len + k ≤ cap' → wpL P n ops os K E (put S d (.slice (some ⟨b, 0, none⟩) (len + k) cap')) (L ++ [some (b, .cells (cs ++ junk).toArray e (0, 0))]) h) :
  wpL P n ops (⟨d, .call ⟨.builtin .append, #[x, y], #[sT, xT]⟩, ty, ps, af, none⟩ :: os) K E S L h := by
 subst ek
 refine op_of fun V => ?_
 have hby' := Nat.le_of_ble_eq_true hby
 unfold opW
 rw [exec_builtin (xs := [x, y]) (vs := [.slice A len cap, .int .i64 (k : Int)]) (by simp [hx, hy])]
 refine wA ?_
 show dem P (Builtin.append_ #[sT, xT] ty #[.slice A len cap, .int .i64 (k : Int)]) _ _ _
 unfold Builtin.append_
 refine qU ht (qU hs ?_)
 refine qU hu (qU (a := true) rfl ?_)
 simp only [if_true, Bool.not_true, Bool.false_eq_true, if_false]
 have hwr : IntKind.i64.wrap (k : Int) = k := IntWalk.i64_in _ (by omega)
 refine qU (s := asInt (.int .i64 (k : Int))) (a := (k : Int)) rfl ?_
 simp only [hwr]
 rw [if_neg (by omega)]
 have hmul : (k : Int) * (inf.bytes : Int) ≤ 2 ^ 30 * 1024 := by
  have h1 : k * inf.bytes ≤ 2 ^ 30 * 1024 := Nat.mul_le_mul (by omega) hby'
  have h2 : ((k * inf.bytes : Nat) : Int) ≤ ((2 ^ 30 * 1024 : Nat) : Int) := by exact_mod_cast h1
  simpa using h2
 refine qU hi' ?_
 rw [if_neg (by omega)]
 refine qU (a := (k : Int).toNat) rfl ?_
 simp only [Int.toNat_natCast]
 rw [if_neg (by omega)]
 have hneed : len + k < 2 ^ 30 := hsmall
 have hcapb : Builtin.nextslicecap (len + k) cap * inf.bytes ≤ 2 * 2 ^ 30 * 1024 := Nat.mul_le_mul (Nat.le_trans (nextslicecap_le (by omega)) (by omega)) hby'
 have hmx : ¬ ((len + k : Nat) : Int) > IntKind.i64.max := by
  show ¬ ((len + k : Nat) : Int) > 9223372036854775807
  omega
 refine qU hi' ?_
 rw [if_neg (fun y => hmx y.1)]
 refine qU hi' ?_
 rw [if_neg (by omega)]
 refine wA ?_
 intro t
 show dem P _ _ _ _
 refine qU hi' ?_
 refine wA ?_
 have hroom : ∀ (q : Nat) {K' : Unit → AH → Prop} {E' : Value → AH → Prop} {H : AH}, K' () H → dem P (askRoom q) H K' E' := by
  intro q K' E' H kk
  unfold askRoom
  split
  ·exact ⟨rfl, kk⟩
  ·exact kk
 refine hroom _ ?_
 refine wA (rd_cells (hr V) hl ?_)
 have hkm : ¬ k * m = 0 := fun h0 => by rcases Nat.mul_eq_zero.1 h0 with h0 | h0 <;> omega
 rw [if_neg hkm]
 refine qU (a := Builtin.zeroCells z.cells k) ((wJ hz).trans rfl) (qU hz ?_)
 rw [hzc]
 obtain ⟨j, hj, hjl⟩ := zeroCells_list zc ((Question.appendCap (len + k) cap e).cut t - (len + k))
 obtain ⟨j0, hj0, hjl0⟩ := zeroCells_list zc k
 rw [hj, hj0]
 refine wA (wA ?_)
 intro b hb
 have hge : len + k ≤ (Question.appendCap (len + k) cap e).cut t := Nat.le_add_right _ _
 have ea : cs.toArray ++ j0.toArray ++ j.toArray = (cs ++ (j0 ++ j)).toArray := by simp
 rw [ea]
 have hlen : (j0 ++ j).length + len * m = (Question.appendCap (len + k) cap e).cut t * m := by
  rw [List.length_append, hjl, hjl0, hzl, ← Nat.add_mul, ← Nat.add_mul]
  congr 1
  omega
 exact ⟨_, h, wl_new hb _, valid_new V hb _, kk b _ (j0 ++ j) hb hlen hge⟩
theorem op_overlaps {x : Operand} {xs : List Operand} {ats : Array TypeId} {g : FuncId} {fn : Func} {tS e e1 e2 : TypeId} {size a b la ca lb cb oa ob : Nat} {rs : Array TypeId} {c1 c2 : Array Value} (hf : ev n S x = .func (.func g) #[] #[]) (hg : P.funcs[g]? = some fn) (hname : (fn.name == "runtime.NumGoroutine") = false) (hb : fn.body.isNone = true)
  (hn : Extern.findNext fn = none) (he : Extern.find fn = some (Extern.SlicesOverlaps.overlaps #[tS, tS] rs)) (hx : xs.map (ev n S) = [.slice (some ⟨a, oa, none⟩) la ca, .slice (some ⟨b, ob, none⟩) lb cb]) (ht : pev P (underlying tS) = some (.slice e)) (hs : pev P (sizeOf e) = some size)
  (h1 : Valid h L → wl h L a = some (.cells c1 e1 (0, 0))) (h2 : Valid h L → wl h L b = some (.cells c2 e2 (0, 0))) (hne : Valid h L → a ≠ b)
  (kk : wpL P n ops os K E (put S d (.bool false)) L h) : wpL P n ops (⟨d, .call ⟨.value x, xs.toArray, ats⟩, ty, ps, af, none⟩ :: os) K E S L h := by
 refine op_of fun V => ?_
 unfold opW
 rw [exec_call (caps := []) (vs := [.slice (some ⟨a, oa, none⟩) la ca, .slice (some ⟨b, ob, none⟩) lb cb]) (by simpa using hf) (by rw [List.append_nil]; exact hx)]
 have h1' := h1 V
 have h2' := h2 V
 have hne := hne V
 have hab : ((⟨a, oa, none⟩ : Addr).block != (⟨b, ob, none⟩ : Addr).block) = true := by simpa using hne
 have hba : ((⟨a, oa, none⟩ : Addr).block == (⟨b, ob, none⟩ : Addr).block) = false := by simpa using hne
 show dem P (match P.funcs[g]? with | none => _ | some fn => _) _ _ _
 rw [hg]
 simp only [hname, hb, Bool.false_eq_true, if_false, if_true]
 refine ⟨rfl, ?_⟩
 simp only [hn, he]
 show dem P (Extern.SlicesOverlaps.overlaps #[tS, tS] rs #[.slice (some ⟨a, oa, none⟩) la ca, .slice (some ⟨b, ob, none⟩) lb cb] >>= fun v => pure (Next.value v)) _ _ _
 refine wA ?_
 have fz : ∀ (r o : Nat) (c : Array Value) (t : TypeId) {K' : Bool → AH → Prop} {E' : Value → AH → Prop}, wl h L r = some (.cells c t (0, 0)) → K' false (wl h L) → dem P (frozen ⟨r, o, none⟩) (wl h L) K' E' := by
  intro r o c t K' E' hr k
  refine ⟨_, hr, fun t ht => ?_⟩
  cases t with
  | false => exact k
  | true => exact absurd (ht rfl) (by simp [frozenO])
 change dem P (α := Value) (do
  let some t := (#[tS, tS] : Array TypeId)[0]? | stuck "slices.overlaps: no parameter types"
  let .slice elem ← underlying t | stuck "slices.overlaps: slice type expected"
  let size ← sizeOf elem
  match (some ⟨a, oa, none⟩ : Option Addr), (some ⟨b, ob, none⟩ : Option Addr) with
  | some a, some b =>
   if la = 0 ∨ lb = 0 ∨ size = 0 then pure (Value.bool false)
   else if a.block != b.block && (← frozen a) && (← frozen b) then unsupported .addressObserved
   else do
    if a.block != b.block then do
     noView a; noView b
     if ← mayBeOne a b then return Value.bool ((← choose (.extern "sameAddr.stringBytes" 2)) == 1)
    pure (Value.bool (a.block == b.block && a.off < b.off + lb * size && b.off < a.off + la * size))
  | _, _ => pure (Value.bool false)) _ _ _
 refine qU (s := underlying tS) ht ?_
 refine qU (s := sizeOf e) hs ?_
 by_cases h0 : la = 0 ∨ lb = 0 ∨ size = 0
 ·simp only [if_pos h0]
  exact ⟨L, h, rfl, V, kk⟩
 ·simp only [if_neg h0]
  refine wA (fz a oa _ _ h1' ?_)
  refine wA (fz b ob _ _ h2' ?_)
  simp only [Bool.and_false, Bool.false_eq_true, if_false, hab, if_true]
  have shp : ∀ (r : Nat) (c : Array Value) (t : TypeId) {K' : Option (TypeId × Nat) → AH → Prop} {E' : Value → AH → Prop}, wl h L r = some (.cells c t (0, 0)) → K' (some (t, c.size)) (wl h L) → dem P (shape r) (wl h L) K' E' := by
   intro r c t K' E' hr k
   exact ⟨_, hr, k⟩
  have nv : ∀ (r o : Nat) (c : Array Value) (t : TypeId) {K' : Unit → AH → Prop} {E' : Value → AH → Prop}, wl h L r = some (.cells c t (0, 0)) → K' () (wl h L) → dem P (noView ⟨r, o, none⟩) (wl h L) K' E' := by
   intro r o c t K' E' hr k
   unfold noView viewAt
   refine wA (wA (shp r c t hr ?_))
   exact k
  have st : ∀ (r o : Nat) (c : Array Value) (t : TypeId) {K' : Bool → AH → Prop} {E' : Value → AH → Prop}, wl h L r = some (.cells c t (0, 0)) → K' false (wl h L) → dem P (stringish ⟨r, o, none⟩) (wl h L) K' E' := by
   intro r o c t K' E' hr k
   unfold stringish
   refine wA (fz r o c t hr ?_)
   refine wA (shp r c t hr ?_)
   exact fz r c.size c t hr k
  refine wA (nv a oa _ _ h1' ?_)
  refine wA (nv b ob _ _ h2' ?_)
  have mb : ∀ {K' : Bool → AH → Prop} {E' : Value → AH → Prop}, K' false (wl h L) → dem P (mayBeOne ⟨a, oa, none⟩ ⟨b, ob, none⟩) (wl h L) K' E' := by
   intro K' E' k
   unfold mayBeOne
   refine wA (st a oa _ _ h1' ?_)
   refine wA (st b ob _ _ h2' ?_)
   refine wA (wA (shp a _ _ h1' ?_))
   refine wA (wA (shp b _ _ h2' ?_))
   exact k
  refine wA (mb ?_)
  have hba2 : (a == b) = false := by simpa using hne
  simp only [Bool.false_eq_true, if_false, hba2, Bool.false_and]
  exact ⟨L, h, rfl, V, kk⟩
end
end Go.HL
namespace Go.HL
open Go
variable [Lvl]
section
variable {P : Program} {n : Nat} {ops : Array Oper} {os : List Oper} {K : Sl → Pv → AH → Prop} {E : Value → Sl → Pv → AH → Prop} {S : Sl} {L : Pv} {h : AH} {d : Option Tmp} {ty : TypeId} {ps : String} {af : Array Edge}
theorem op_fnE {x : Operand} {xs : List Operand} {ats : Array TypeId} {g : FuncId} {caps vs : List Value} {R Q : Value → AH → Prop} (hf : ev n S x = .func (.func g) #[] caps.toArray) (hc : callable P g = true) (hx : xs.map (ev n S) ++ caps = vs) (c : FnE P g vs.toArray h R Q)
  (e : ∀ v h', Ext h h' → Q v h' → E v S L h') (k : ∀ v h', Ext h h' → R v h' → wpL P n ops os K E (put S d v) L h') : wpL P n ops (⟨d, .call ⟨.value x, xs.toArray, ats⟩, ty, ps, af, none⟩ :: os) K E S L h :=
 op_call hf hc hx (CallT.mono c (fun v h' r => k v h' r.1 r.2) (fun v h' r => e v h' r.1 r.2))
theorem pv_conv {x : Operand} {s t : TypeId} {q k : IntKind} {z z' : Int} {us : TypeDesc} (hx : ev n S x = .int q z) (hs : pev P (underlying s) = some us) (ht : pev P (underlying t) = some (.int k)) (hz : k.wrap z = z') :
  pev P (execOp (ev n S) ⟨d, .convert s t x, ty, ps, af, none⟩) = some (.value (.int k z')) := by
 subst hz
 simp only [execOp, hx]
 refine (zG (a := .int k (k.wrap z)) ?_).trans rfl
 unfold convert
 refine (wJ hs).trans ?_
 refine (wJ ht).trans ?_
 rfl
theorem pv_sliceLoS {x lo : Operand} {t e : TypeId} {m len cap : Nat} {A : Option Addr} (i : Nat) {A' : Option Addr} {l' c' : Nat} {k : IntKind} {i' : Int} (hx : ev n S x = .slice A len cap) (hl : ev n S lo = .int k i') (ei : i' = i) (ht : pev P (underlying t) = some (.slice e)) (hs : pev P (sizeOf e) = some m) (hij : i ≤ len) (hc : len ≤ cap)
  (eA : (if cap = i then A else A.map (·.add (i * m))) = A') (el : len - i = l') (ec : cap - i = c') :
  pev P (execOp (ev n S) ⟨d, .slice t x (some lo) none none, ty, ps, af, none⟩) = some (.value (.slice A' l' c')) := by
 subst eA el ec
 exact pv_sliceLo i hx hl ei ht hs hij hc
theorem slA {b i cap : Nat} (h : i < cap) : (if cap = i then some (⟨b, 0, none⟩ : Addr) else (some (⟨b, 0, none⟩ : Addr)).map (·.add (i * 1))) = some ⟨b, i, none⟩ := by
 rw [if_neg (by omega), Option.map_some, add_none, Nat.mul_one, Nat.zero_add]
theorem pv_assert {x : Operand} {xt t : TypeId} {v : Value} {u : TypeDesc} (hx : ev n S x = .iface t v) (hu : pev P (underlying t) = some u) (hni : (match u with | .interface _ => false | _ => true) = true) :
  pev P (execOp (ev n S) ⟨d, .typeAssert x xt t true, ty, ps, af, none⟩) = some (.value (.tuple #[v, .bool true])) := by
 simp only [execOp, hx]
 refine (zG (a := .tuple #[v, .bool true]) ?_).trans rfl
 unfold Instr.typeAssert
 refine (wJ hu).trans ?_
 cases u <;> first | (cases hni; done) | (simp only [if_true]; rfl)
end
section
variable {P : Program} {m n : Nat} {K' : Post} {S : Sl} {D : Df} {L : Pv} {h : AH}
def bodyOps (f : Func) : Array Oper := match f.body with | some (.seq (.region _ o _) _) => o | _ => #[]
def bodyRest (f : Func) : Code := match f.body with | some (.seq _ c) => c | _ => .skip
theorem clo_run {ops : Array Oper} {o1 : Oper} {c2 : Code} (h1 : ops[1]? = some o1) (hz : ops[2]? = none) (hc : calmB [o1] = true)
  (w : wpL P m ops [o1] (fun S' L' h' => xp P m none c2 K' S' [] L' h') (fun v S' L' h' => K' (.panic v) S' [] L' h') S L h) : Goes P m none ([.inRegion ops [1]] ++ [.code c2]) K' S [] L h := by
 refine goes_append trivial ?_
 refine goes_list [o1] (calm_of _ hc) 1 S L h (fun j => ?_) w
 match j with
 | 0 => exact h1.symm
 | j + 1 =>
  have : ops.size ≤ 2 := by simpa using hz
  rw [show 1 + (j + 1) = j + 2 from by omega, Array.getElem?_eq_none (by omega)]
  rfl
theorem doneK_list {fn : Func} {K : Value → AH → Prop} {rs : List ResultVar} {vs : List Value} (hr : fn.results = rs.toArray) (hv : ResL P n S L h rs vs) (k : Valid h L → K (tupV vs) (wl h L)) : doneK P n fn K S L h := fun V => res_core hr hv V (k V)
end
end Go.HL
namespace Go.Proofs.Ythphpbdmbmiaiaa
open Go Go.HL Go.Proofs Go.Wx Go.Rd
section
variable [Lvl]
set_option maxRecDepth 100000
theorem neself (x : Int) : (!(x == x)) = false := by simp
theorem nanC_ok (x : Int) (h : AH) : FnT Try.prog 140 #[.int .i64 x] h (fun v _ => v = .bool false) := by
 refine wM Try.func140 rfl Try.ntmps140 rfl ?_
 refine qD ?_
 refine qB rfl ?_
 refine qA (qE (v := .bool _) rfl) ?_
 refine qD ?_
 refine qB rfl ?_
 refine qA (qC (v := .int .i64 _) rfl) ?_
 refine qA (qC (v := .int .i64 _) rfl) ?_
 refine qA (qL (v := .bool _) rfl) ?_
 refine qA (qE (v := .bool _) rfl) ?_
 refine qV ?_
 refine qN (vs := [_]) Try.results140 ⟨qM rfl rfl, trivial⟩ fun V => ?_
 exact ⟨(qQ V), congrArg Value.bool (neself x)⟩
theorem nanS_ok (x : Int) (h : AH) : FnT Try.prog 136 #[.int .i64 x] h (fun v _ => v = .bool false) := by
 refine wM Try.func136 rfl Try.ntmps136 rfl ?_
 refine qD ?_
 refine qB rfl ?_
 refine qA (qE (v := .bool _) rfl) ?_
 refine qD ?_
 refine qB rfl ?_
 refine qA (qC (v := .int .i64 _) rfl) ?_
 refine qA (qC (v := .int .i64 _) rfl) ?_
 refine qA (qL (v := .bool _) rfl) ?_
 refine qA (qE (v := .bool _) rfl) ?_
 refine qV ?_
 refine qN (vs := [_]) Try.results136 ⟨qM rfl rfl, trivial⟩ fun V => ?_
 exact ⟨(qQ V), congrArg Value.bool (neself x)⟩
theorem less_ok (x y : Int) (h : AH) : FnT Try.prog 135 #[.int .i64 x, .int .i64 y] h (fun v _ => v = .bool (decide (x < y))) := by
 refine wM Try.func135 rfl Try.ntmps135 rfl ?_
 refine qD ?_
 refine qB rfl ?_
 refine qA (qE (v := .bool _) rfl) ?_
 refine qD ?_
 refine qB rfl ?_
 refine qA (qC (v := .int .i64 _) rfl) ?_
 refine wK (caps := []) (vs := [.int .i64 _]) rfl rfl rfl (nanC_ok x h) ?_
 rintro _ h1 E1 rfl
 refine qA (qC (v := .bool _) rfl) ?_
 refine qJ rfl rfl ?_
 refine qJ rfl rfl ?_
 refine qJ rfl rfl ?_
 refine qA (wN rfl rfl (v := .bool _) rfl) ?_
 refine qA (qC (v := .bool _) rfl) ?_
 refine qG rfl rfl ?_
 refine qA (qC (v := .int .i64 _) rfl) ?_
 refine qG rfl rfl ?_
 refine qA (qC (v := .int .i64 _) rfl) ?_
 refine qG rfl rfl ?_
 refine qA (qL (v := .bool _) rfl) ?_
 refine qA (wN rfl rfl (v := .bool _) rfl) ?_
 refine qA (qE (v := .bool _) rfl) ?_
 refine qV ?_
 refine qN (vs := [_]) Try.results135 ⟨qM rfl rfl, trivial⟩ fun V => ?_
 exact ⟨(zM E1 (qQ V)), rfl⟩
theorem pw_le {l : List Int} (p : l.Pairwise (· < ·)) {i j : Nat} (hi : i < l.length) (hj : j < l.length) (hij : i ≤ j) : l[i] ≤ l[j] := by
 rcases Nat.lt_or_eq_of_le hij with h | rfl
 ·exact Int.le_of_lt (List.pairwise_iff_getElem.1 p i j hi hj h)
 ·exact Int.le_refl _
def AtP (l : List Int) (z : Int) (i : Nat) : Prop := i ≤ l.length ∧ (∀ k (hk : k < l.length), k < i → l[k] < z) ∧ ∀ k (hk : k < l.length), i ≤ k → z ≤ l[k]
theorem AtP.mem {l : List Int} {z : Int} {i : Nat} (a : AtP l z i) (hi : i < l.length) : (z ∈ l ↔ l[i] = z) ∨ ¬ l.Pairwise (· < ·) := by
 by_cases p : l.Pairwise (· < ·)
 ·left
  constructor
  ·intro hm
   obtain ⟨k, hk, rfl⟩ := List.getElem_of_mem hm
   by_cases hki : k < i
   ·exact absurd (a.2.1 k hk hki) (Int.lt_irrefl _)
   ·exact Int.le_antisymm (pw_le p hi hk (by omega)) (a.2.2 i hi (Nat.le_refl _))
  ·intro e; rw [← e]; exact List.getElem_mem hi
 ·right; exact p
theorem search_ok (l : List Int) (z : Int) (A : Option Addr) (c : Nat) (h : AH) (R : Row h 1 intC A l) (hl : l.length < 2 ^ 20) (p : l.Pairwise (· < ·)) :
  FnT Try.prog 130 #[.slice A l.length c, .int .i64 z] h (fun v _ => ∃ i : Nat, v = .tuple #[.int .i64 (i : Int), .bool (decide (z ∈ l))] ∧ AtP l z i) := by
 refine wM Try.func130 rfl Try.ntmps130 rfl ?_
 refine qD ?_
 refine qB rfl ?_
 refine qA (qE (v := .int .i64 _) rfl) ?_
 refine qA (qE (v := .bool _) rfl) ?_
 refine qD ?_
 refine qB rfl ?_
 refine qA (qC (v := .slice _ _ _) rfl) ?_
 refine qA (wP rfl rfl) ?_
 refine qA (qE (v := .int .i64 _) rfl) ?_
 refine qD ?_
 refine qB rfl ?_
 refine qA (qC (v := .int .i64 _) rfl) ?_
 refine qA (qE (v := .int .i64 _) rfl) ?_
 refine qA (qE (v := .int .i64 _) rfl) ?_
 refine qD ?_
 refine qP ?_
 refine xp_loopB [7, 8, 9, 13, 14, 15, 16, 17, 18, 19, 20, 21, 22, 23, 24, 25, 26, 27, 28, 29, 30] 0 (α := Nat × Nat) (fun ⟨i, j⟩ => [(7, .int .i64 i), (8, .int .i64 j)]) (fun ⟨i, j⟩ => _) (fun ⟨i, j⟩ h_i => i ≤ j ∧ j ≤ l.length ∧ (∀ k (hk : k < l.length), k < i → l[k] < z) ∧ ∀ k (hk : k < l.length), j ≤ k → z ≤ l[k]) (fun ⟨i, j⟩ => j - i) ((0, l.length)) ⟨rfl, rfl, trivial⟩ (rfl) (⟨Nat.zero_le _, Nat.le_refl _, fun _ _ h => absurd h (Nat.not_lt_zero _), fun _ h1 h2 => absurd h1 (by omega)⟩) ?_
 rintro ⟨i, j⟩ T1 h_i E_i J_i
 refine qS [] rfl ?_
 obtain ⟨K1, K2, K3, K4⟩ := J_i
 refine qD ?_
 refine qD ?_
 refine qB rfl ?_
 refine qA (qC (v := .int .i64 _) rfl) ?_
 refine qA (qC (v := .int .i64 _) rfl) ?_
 refine qA (qL (v := .bool _) rfl) ?_
 refine qR rfl (fun hk => ?_) (fun hk => ?_)
 ·skip
  have hij : i < j := ltI hk
  refine qO ?_
  refine qP ?_
  refine qD ?_
  refine qB rfl ?_
  refine qA (qC (v := .int .i64 _) rfl) ?_
  refine qA (qC (v := .int .i64 _) rfl) ?_
  refine qA (qT rfl (by omega)) ?_
  refine qA (pv_conv (k := .u64) (z' := ((i + j : Nat) : Int)) rfl rfl rfl (by rw [← Int.natCast_add]; exact u64_nat _ (by omega))) ?_
  refine op_shr (i + j) 1 rfl rfl rfl rfl (by omega) ?_
  refine qA (pv_conv (k := .i64) (z' := (((i + j) / 2 : Nat) : Int)) rfl rfl rfl (by exact IntWalk.i64_in _ (by omega))) ?_
  have hm1 : (i + j) / 2 < j := by omega
  have hm0 : i ≤ (i + j) / 2 := by omega
  obtain ⟨m, hm⟩ : ∃ m, m = (i + j) / 2 := ⟨_, rfl⟩
  rw [← hm] at hm1 hm0 ⊢
  have hml : m < l.length := by omega
  obtain ⟨g, off, hA, hc⟩ := (R.ext E_i).at (by omega) hml
  refine qA (qE (v := .int .i64 _) rfl) ?_
  refine qD ?_
  refine qB rfl ?_
  refine qA (qC (v := .slice _ _ _) rfl) ?_
  refine qA (qC (v := .int .i64 _) rfl) ?_
  refine qA (wO rfl hA rfl rfl rfl (by omega) (by omega)) ?_
  refine wT (v := .int .i64 _) rfl rfl ((hc) 0 _ rfl) ?_
  refine qA (qC (v := .int .i64 _) rfl) ?_
  refine wK (caps := []) (vs := [.int .i64 _, .int .i64 _]) rfl rfl rfl (less_ok l[m] z h_i) ?_
  rintro _ h1 E1 rfl
  refine qR rfl (fun he => ?_) (fun he => ?_)
  ·skip
   have he' : l[m] < z := of_decide_eq_true he
   refine qB rfl ?_
   refine qA (qC (v := .int .i64 _) rfl) ?_
   refine qA (qT rfl (by omega)) ?_
   refine qA (qE (v := .int .i64 _) rfl) ?_
   refine ⟨(m + 1, j), ⟨rfl, rfl, trivial⟩, rfl, rfl, (zM E_i E1), fun h3 E3 => ⟨hm1, K2, fun k hk h => Int.lt_of_le_of_lt (pw_le p hk hml (by omega)) he', K4⟩, by first | omega | (dsimp only; omega), ?_⟩
   repeat (first | exact qY _ _ _ | refine wG (by decide) ?_ | refine qX rfl ?_ | refine wH rfl ?_)
  ·skip
   have he' : ¬ l[m] < z := of_decide_eq_false he
   refine qB rfl ?_
   refine qA (qC (v := .int .i64 _) rfl) ?_
   refine qA (qE (v := .int .i64 _) rfl) ?_
   refine ⟨(i, m), ⟨rfl, rfl, trivial⟩, rfl, rfl, (zM E_i E1), fun h3 E3 => ⟨hm0, by omega, K3, fun k hk h => Int.le_trans (by omega) (pw_le p hml hk h)⟩, by first | omega | (dsimp only; omega), ?_⟩
   repeat (first | exact qY _ _ _ | refine wG (by decide) ?_ | refine qX rfl ?_ | refine wH rfl ?_)
 ·skip
  have hke : i = j := by have := geI hk; omega
  subst hke
  have AT : AtP l z i := ⟨K2, K3, K4⟩
  by_cases hil : i < l.length
  ·have hg : decide ((i : Int) < (l.length : Int)) = true := decide_eq_true (by omega)
   have hmem := (AT.mem hil).resolve_right (fun y => y p)
   obtain ⟨g, off, hA, hc⟩ := (R.ext E_i).at (by omega) hil
   refine wV ?_
   refine qD ?_
   refine qB rfl ?_
   refine qA (qC (v := .int .i64 _) rfl) ?_
   refine qA (qC (v := .int .i64 _) rfl) ?_
   refine qA (qC (v := .int .i64 _) rfl) ?_
   refine qA (qL (v := .bool _) rfl) ?_
   refine qA (qC (v := .bool _) rfl) ?_
   refine qG rfl hg ?_
   refine qA (qC (v := .slice _ _ _) rfl) ?_
   refine qG rfl hg ?_
   refine qA (qC (v := .int .i64 _) rfl) ?_
   refine qG rfl hg ?_
   refine qA (wO rfl hA rfl rfl rfl (by omega) (by omega)) ?_
   refine qG rfl hg ?_
   refine wT (v := .int .i64 _) rfl rfl ((hc) 0 _ rfl) ?_
   refine qG rfl hg ?_
   refine qA (qC (v := .int .i64 _) rfl) ?_
   refine qG rfl hg ?_
   refine qA (qL (v := .bool _) rfl) ?_
   refine qG rfl hg ?_
   refine qA (qC (v := .bool _) rfl) ?_
   by_cases hz : l[i] = z
   ·have hg2 : (l[i] == z) = true := by simpa using hz
    refine qJ rfl hg2 ?_
    refine qJ rfl hg2 ?_
    refine qJ rfl hg2 ?_
    refine qJ rfl hg2 ?_
    refine qJ rfl hg2 ?_
    refine qJ rfl hg2 ?_
    refine guard_un rfl ?_
    refine guard_un rfl ?_
    refine qJ rfl hg2 ?_
    refine qG rfl hg ?_
    refine qA (wI rfl hg2 (v := .bool _) rfl) ?_
    refine qA (wI rfl hg (v := .bool _) rfl) ?_
    refine qA (qE (v := .int .i64 _) rfl) ?_
    refine qA (qE (v := .bool _) rfl) ?_
    refine qV ?_
    refine qN (vs := [_, _]) Try.results130 ⟨qM rfl rfl, qM rfl rfl, trivial⟩ fun V => ?_
    exact ⟨(zM E_i (qQ V)), i, (congrArg (fun b => Value.tuple #[.int .i64 i, .bool b]) (decide_eq_true (hmem.2 hz)).symm), AT⟩
   ·have hg2 : (l[i] == z) = false := by simpa using hz
    obtain ⟨g2, off2, hA2, hc2⟩ := (R.ext E_i).at (by omega) hil
    refine qG rfl hg2 ?_
    refine qA (qC (v := .slice _ _ _) rfl) ?_
    refine qG rfl hg2 ?_
    refine qA (qC (v := .int .i64 _) rfl) ?_
    refine qG rfl hg2 ?_
    refine qA (wO rfl hA2 rfl rfl rfl (by omega) (by omega)) ?_
    refine qG rfl hg2 ?_
    refine wT (v := .int .i64 _) rfl rfl ((hc2) 0 _ rfl) ?_
    refine qG rfl hg2 ?_
    refine wK (caps := []) (vs := [.int .i64 _]) rfl rfl rfl (nanS_ok l[i] h_i) ?_
    rintro _ h1 E1 rfl
    refine qG rfl hg2 ?_
    refine qA (qC (v := .bool _) rfl) ?_
    refine qJ rfl rfl ?_
    refine qJ rfl rfl ?_
    refine qG rfl hg2 ?_
    refine qA (wN rfl rfl (v := .bool _) rfl) ?_
    refine qG rfl hg ?_
    refine qA (wN rfl hg2 (v := .bool _) rfl) ?_
    refine qA (wI rfl hg (v := .bool _) rfl) ?_
    refine qA (qE (v := .int .i64 _) rfl) ?_
    refine qA (qE (v := .bool _) rfl) ?_
    refine qV ?_
    refine qN (vs := [_, _]) Try.results130 ⟨qM rfl rfl, qM rfl rfl, trivial⟩ fun V => ?_
    exact ⟨(zM (zM E_i E1) (qQ V)), i, (congrArg (fun b => Value.tuple #[.int .i64 i, .bool b]) (decide_eq_false (fun y => hz (hmem.1 y))).symm), AT⟩
  ·have hg : decide ((i : Int) < (l.length : Int)) = false := decide_eq_false (by omega)
   refine wV ?_
   refine qD ?_
   refine qB rfl ?_
   refine qA (qC (v := .int .i64 _) rfl) ?_
   refine qA (qC (v := .int .i64 _) rfl) ?_
   refine qA (qC (v := .int .i64 _) rfl) ?_
   refine qA (qL (v := .bool _) rfl) ?_
   refine qA (qC (v := .bool _) rfl) ?_
   refine qJ rfl hg ?_
   refine qJ rfl hg ?_
   refine qJ rfl hg ?_
   refine qJ rfl hg ?_
   refine qJ rfl hg ?_
   refine qJ rfl hg ?_
   refine qJ rfl hg ?_
   refine guard_un rfl ?_
   refine guard_un rfl ?_
   refine guard_un rfl ?_
   refine guard_un rfl ?_
   refine guard_un rfl ?_
   refine guard_un rfl ?_
   refine guard_un rfl ?_
   refine guard_un rfl ?_
   refine guard_un rfl ?_
   refine qJ rfl hg ?_
   refine qA (wN rfl hg (v := .bool _) rfl) ?_
   refine qA (qE (v := .int .i64 _) rfl) ?_
   refine qA (qE (v := .bool _) rfl) ?_
   refine qV ?_
   refine qN (vs := [_, _]) Try.results130 ⟨qM rfl rfl, qM rfl rfl, trivial⟩ fun V => ?_
   have hlen : i = l.length := by have := AT.1; omega
   have hno : ¬ z ∈ l := fun y => by
    obtain ⟨k, hk, e⟩ := List.getElem_of_mem y
    have := AT.2.1 k hk (by omega)
    omega
   exact ⟨(zM E_i (qQ V)), i, (congrArg (fun b => Value.tuple #[.int .i64 i, .bool b]) (decide_eq_false hno).symm), AT⟩
end
end Go.Proofs.Ythphpbdmbmiaiaa
namespace Go.HL
open Go
variable [Lvl]
theorem wrL_mid : ∀ (c pre j : List Value), c.length ≤ j.length → wrL (pre ++ j) pre.length c = pre ++ c ++ j.drop c.length
 | [], pre, j, _ => by simp [wrL]
 | v :: c, pre, [], h => absurd h (by simp)
 | v :: c, pre, x :: j, h => by
  have e : (pre ++ x :: j).set pre.length v = (pre ++ [v]) ++ j := by simp
  have ih := wrL_mid c (pre ++ [v]) j (by simpa using h)
  rw [List.length_append, List.length_singleton] at ih
  rw [wrL, e, ih]
  simp
def rowP : Nat → List (List Value) → List (Nat × Value)
 | _, [] => []
 | k, c :: els => (k, .agg c.toArray) :: rowP (k + 1) els
theorem fill_row {m : Nat} : ∀ (els : List (List Value)) (k : Nat) (pre j : List Value), (∀ c ∈ els, c.length = m) → pre.length = k * m → j.length = els.length * m → fillL (fun i => some (i * m, m)) (pre ++ j) (rowP k els) = some (pre ++ els.flatMap id)
 | [], k, pre, j, _, _, hj => by
  have : j = [] := List.length_eq_zero_iff.1 (by simpa using hj)
  subst this
  rfl
 | c :: els, k, pre, j, hm, hp, hj => by
  have hc := hm c (List.mem_cons_self ..)
  have hj' : j.length = els.length * m + m := by rw [hj, List.length_cons, Nat.add_mul, Nat.one_mul]
  have e1 : ((Value.agg c.toArray).cells.size == m && Nat.ble (k * m + m) (pre ++ j).length) = true := by
   rw [Bool.and_eq_true]
   refine ⟨by show (c.toArray.size == m) = true; simp [hc], Nat.ble_eq_true_of_le ?_⟩
   rw [List.length_append]
   omega
  have e2 : wrL (pre ++ j) (k * m) (Value.agg c.toArray).cells.toList = (pre ++ c) ++ j.drop m := by
   rw [← hp, show (Value.agg c.toArray).cells.toList = c from rfl, wrL_mid c pre j (by omega), hc]
  rw [rowP, fillL]
  simp only
  rw [if_pos e1, e2]
  rw [fill_row els (k + 1) (pre ++ c) (j.drop m) (fun x hx => hm x (List.mem_cons_of_mem _ hx)) (by rw [List.length_append, hp, hc, Nat.add_mul, Nat.one_mul]) (by rw [List.length_drop, hj']; omega)]
  simp
variable {P : Program} {n : Nat} {ops : Array Oper} {os : List Oper} {K : Sl → Pv → AH → Prop} {E : Value → Sl → Pv → AH → Prop} {S : Sl} {L : Pv} {h : AH} {d : Option Tmp} {ty : TypeId} {ps : String} {af : Array Edge}
theorem op_buildSliceR (els : List (List Value)) {t e : TypeId} {m len : Nat} {z : Value} {zc : List Value} {pts : List (Nat × Operand)} (ht : pev P (underlying t) = some (.slice e)) (hs : pev P (sizeOf e) = some m)
  (hz : pev P (zeroValue e) = some z) (hzc : z.cells = zc.toArray) (hl : Nat.ble (len * m) 16777216 = true) (hn : els.length = len) (hm : els.all (fun c => c.length == m) = true) (hv : pts.map (fun q => (q.1, ev n S q.2)) = rowP 0 els)
  (k : ∀ b, wl h L b = none → wpL P n ops os K E (put S d (.slice (some ⟨b, 0, none⟩) len len)) (L ++ [some (b, .cells (els.flatMap id).toArray e (0, 0))]) h) : wpL P n ops (⟨d, .buildSlice t len pts.toArray, ty, ps, af, none⟩ :: os) K E S L h := by
 refine wD ht hs hz hzc hl hv ?_ k
 have := fill_row (m := m) els 0 [] ((List.range (len * m)).map fun i => zc[i % zc.length]!) (fun c hc => by have := List.all_eq_true.1 hm c hc; simpa using this) (by simp) (by simp [hn])
 simpa using this
end Go.HL
namespace Go.Wx
open Go Go.HL
variable [Lvl]
theorem rdAt {h : AH} {L : Pv} {i b o : Nat} (pre xs post : List Value) {cs : List Value} {e : TypeId} {f : Nat × Nat} (V : Valid h L) (hi : L[i]? = some (some (b, .cells cs.toArray e f))) (ho : o = pre.length) (hc : cs = pre ++ xs ++ post) : Rd (wl h L) (some ⟨b, o, none⟩) xs := by
 subst ho hc
 intro _
 refine ⟨b, _, rfl, fun j u hu => ?_⟩
 simp only [cellA, zK V hi]
 have hj : j < xs.length := (List.getElem?_eq_some_iff.1 hu).1
 have : (pre ++ xs ++ post)[pre.length + j]? = some u := by
  rw [List.append_assoc, List.getElem?_append_right (by omega), Nat.add_sub_cancel_left, List.getElem?_append_left hj]
  exact hu
 simpa using this
theorem rdIf {h : AH} {L : Pv} {i b o cap : Nat} (pre xs post : List Value) {cs : List Value} {e : TypeId} {f : Nat × Nat} (V : Valid h L) (hi : L[i]? = some (some (b, .cells cs.toArray e f))) (ho : o = pre.length) (hc : cs = pre ++ xs ++ post) (hx : xs ≠ [] → o < cap) : Rd (wl h L) (if cap = o then some (⟨b, 0, none⟩ : Addr) else (some (⟨b, 0, none⟩ : Addr)).map (·.add (o * 1))) xs := by
 by_cases hn : xs = []
 ·subst hn; exact Rd.nil _ _
 ·have := hx hn
  rw [if_neg (by omega), Option.map_some, add_none, Nat.mul_one, Nat.zero_add]
  exact rdAt pre xs post V hi ho hc
theorem wrL_len : ∀ (vs c : List Value) (o : Nat), (wrL c o vs).length = c.length
 | [], _, _ => rfl
 | v :: vs, c, o => by
  show (wrL (c.set o v) (o + 1) vs).length = _
  rw [wrL_len vs, List.length_set]
theorem valid_ne {h : AH} {a b : Nat} {o o' : Obj} (V : Valid h [some (a, o), some (b, o')]) : a ≠ b := by
 have := V.nd
 simp [cl] at this
 exact this
theorem shed_row {α : Type} {m : Nat} {enc : α → List Value} {H h9 : AH} {l : List α} {v : Value} (e : H = wl h9 []) (r : SlR H m enc l v) : SlR h9 m enc l v := by
 rw [wl_nil] at e; exact e ▸ r
theorem gap_len (A B J : List Value) (hB : B ≠ []) (hJ : J ≠ []) : ∃ b0 X, wrL (A ++ B ++ J) (A.length + 1) B = A ++ [b0] ++ B ++ X ∧ X.length + 1 = J.length ∧ ∀ z, wrL (A ++ [b0] ++ B ++ X) A.length [z] = A ++ [z] ++ B ++ X := by
 cases B with
 | nil => exact absurd rfl hB
 | cons b0 B =>
  have hJ' : 0 < J.length := List.length_pos_iff.2 hJ
  refine ⟨b0, (B ++ J).drop (b0 :: B).length, ?_, ?_, fun z => ?_⟩
  ·have := Go.HL.wrL_mid (b0 :: B) (A ++ [b0]) (B ++ J) (by simp; omega)
   rw [List.length_append, List.length_singleton] at this
   rw [← this]
   simp
  ·simp; omega
  ·have := Go.HL.wrL_mid [z] A ([b0] ++ (b0 :: B) ++ (B ++ J).drop (b0 :: B).length) (by simp)
   simp only [List.append_assoc] at this ⊢
   rw [this]
   simp
theorem gap_new (A B J : List Value) (z : Value) (hJ : B.length + 1 ≤ J.length) : ∃ X, wrL (wrL (A ++ J) A.length [z]) (A.length + 1) B = A ++ [z] ++ B ++ X ∧ X.length + B.length + 1 = J.length := by
 have h1 := Go.HL.wrL_mid [z] A J (by simp; omega)
 refine ⟨(J.drop 1).drop B.length, ?_, by simp; omega⟩
 rw [h1]
 have h2 := Go.HL.wrL_mid B (A ++ [z]) (J.drop 1) (by simp; omega)
 rw [List.length_append, List.length_singleton] at h2
 exact h2
theorem gap_shut (A B J : List Value) (z0 z : Value) : ∃ X, wrL (A ++ [z0] ++ B ++ J) A.length B = A ++ B ++ X ∧ X.length = J.length + 1 ∧ ∃ Y, wrL (A ++ B ++ X) (A.length + B.length) [z] = A ++ B ++ Y ∧ Y.length = J.length + 1 := by
 refine ⟨([z0] ++ B ++ J).drop B.length, ?_, by simp; omega, [z] ++ (([z0] ++ B ++ J).drop B.length).drop 1, ?_, by first | (simp; done) | (simp; omega)⟩
 ·have := Go.HL.wrL_mid B A ([z0] ++ B ++ J) (by simp; omega)
  rw [← this]; simp
 ·have := Go.HL.wrL_mid [z] (A ++ B) (([z0] ++ B ++ J).drop B.length) (by simp; omega)
  rw [List.length_append] at this
  rw [this]; simp
end Go.Wx
namespace Go.Proofs.Ythphpbdmbmiaiaa
open Go Go.HL Go.Proofs Go.Wx Go.Rd
section
variable [Lvl]
set_option maxRecDepth 100000
theorem flatI (l : List Int) : (l.flatMap intC).length = l.length := by rw [wU (m := 1) (fun _ _ => rfl), Nat.mul_one]
theorem insE_ok (l : List Int) (z : Int) (a : Acc) (b : Nat) (h : AH) (ha : AccR 3 1 (l.flatMap intC) a) (hl : l.length < 2 ^ 20) :
  FnM Try.prog (.func (.func 131) #[] ([] : List Value).toArray) [.slice a.A a.n a.c, .int .i64 (l.length : Int), .slice (some ⟨b, 0, none⟩) 1 1] h [a.p, some (b, .cells [Value.int .i64 z].toArray 3 (0, 0))] (fun v h' M' => M' = [] ∧ SlR h' 1 intC (l ++ [z]) v) := by
 have hn : a.n = l.length := by have := ha.len; rw [flatI] at this; omega
 have hc : a.n ≤ a.c := by
  rcases ha with ⟨_, _, A, ev⟩ | ⟨b, len, cap, junk, hl1, ev, _, h4⟩
  ·injection ev with _ h2 h3; omega
  ·injection ev with _ h2 h3; simp only [List.length_append] at h4; omega
 refine fnM_body rfl rfl Try.func131 rfl Try.ntmps131 rfl ?_
 refine qD ?_
 refine qB rfl ?_
 refine qA (qE (v := .slice _ _ _) rfl) ?_
 refine qD ?_
 refine qB rfl ?_
 refine qA (qC (v := .slice _ _ _) rfl) ?_
 refine qA (qC (v := .int .i64 _) rfl) ?_
 refine qA (pv_sliceLo l.length rfl rfl rfl rfl rfl (by omega) (by omega)) ?_
 refine qD ?_
 refine qB rfl ?_
 refine qA (qC (v := .slice _ _ _) rfl) ?_
 refine qA (wP rfl rfl) ?_
 refine qA (qE (v := .int .i64 _) rfl) ?_
 refine qD ?_
 refine qD ?_
 refine qB rfl ?_
 refine qA (qC (v := .int .i64 _) rfl) ?_
 refine qA (qL (v := .bool _) rfl) ?_
 refine zC rfl (rfl) ?_
 refine qO ?_
 refine qD ?_
 refine qB rfl ?_
 refine qA (qC (v := .slice _ _ _) rfl) ?_
 refine qA (wP rfl rfl) ?_
 refine qA (qE (v := .int .i64 _) rfl) ?_
 refine qD ?_
 refine qD ?_
 refine qB rfl ?_
 refine qA (qC (v := .int .i64 _) rfl) ?_
 refine qA (qC (v := .int .i64 _) rfl) ?_
 refine qA (qL (v := .bool _) rfl) ?_
 refine xp_condT rfl ((by rw [natBeq]; exact decide_eq_true (by omega))) ?_
 refine qD ?_
 refine qB rfl ?_
 refine qA (qC (v := .slice _ _ _) rfl) ?_
 refine qA (qC (v := .slice _ _ _) rfl) ?_
 refine wZ 0 ha rfl rfl rfl (fun V => rdP V (i := 1) rfl) rfl rfl rfl rfl rfl rfl rfl rfl rfl (by omega) rfl ((by rw [flatI]; simp; omega)) fun a2 h1a E1a ha2 => ?_
 refine qK [_, _] rfl ?_
 refine qA (qE (v := .slice _ _ _) rfl) ?_
 refine qV ?_
 refine qN (vs := [_]) Try.results131 ⟨qM rfl rfl, trivial⟩ fun V => ?_
 obtain ⟨h9, E9, e9, V9⟩ := wl_shed [_, _] [] V
 exact ⟨h9, [], e9, V9, zM E1a E9, rfl, shed_row e9 (AccP.row (m := 1) (enc := intC) (i := 0) (l := l ++ [z]) (by rw [List.flatMap_append]; exact ha2) (by omega) (fun _ _ => rfl) V rfl)⟩
theorem insM_ok (p q : List Int) (z : Int) (b0 b n cap : Nat) (J : List Value) (h : AH) (hn : n = p.length + q.length) (hc : n + J.length = cap) (hq : q ≠ []) (hl : n < 2 ^ 20) :
  FnM Try.prog (.func (.func 131) #[] ([] : List Value).toArray) [.slice (some ⟨b0, 0, none⟩) n cap, .int .i64 (p.length : Int), .slice (some ⟨b, 0, none⟩) 1 1] h [some (b0, .cells (p.flatMap intC ++ q.flatMap intC ++ J).toArray 3 (0, 0)), some (b, .cells [Value.int .i64 z].toArray 3 (0, 0))] (fun v h' M' => M' = [] ∧ SlR h' 1 intC (p ++ z :: q) v) := by
 have hq0 : 0 < q.length := List.length_pos_iff.2 hq
 have hA := flatI p
 have hB := flatI q
 have hqB : q.flatMap intC ≠ [] := List.length_pos_iff.1 (by omega)
 have fin : ∀ (X : List Value) (bb cc : Nat), n + 1 + X.length = cc → AccP 3 1 ((p ++ z :: q).flatMap intC) (some (bb, .cells (p.flatMap intC ++ [Value.int .i64 z] ++ q.flatMap intC ++ X).toArray 3 (0, 0))) (.slice (some ⟨bb, 0, none⟩) (n + 1) cc) := by
  intro X bb cc hX
  have e : (p ++ z :: q).flatMap intC = p.flatMap intC ++ [Value.int .i64 z] ++ q.flatMap intC := by rw [List.flatMap_append, List.flatMap_cons, List.append_assoc]; rfl
  refine .inr ⟨bb, n + 1, cc, X, ?_, rfl, by rw [e], ?_⟩
  ·rw [flatI]; simp; omega
  ·rw [List.length_append, flatI]; simp; omega
 refine fnM_body rfl rfl Try.func131 rfl Try.ntmps131 rfl ?_
 refine qD ?_
 refine qB rfl ?_
 refine qA (qE (v := .slice _ _ _) rfl) ?_
 refine qD ?_
 refine qB rfl ?_
 refine qA (qC (v := .slice _ _ _) rfl) ?_
 refine qA (qC (v := .int .i64 _) rfl) ?_
 refine qA (pv_sliceLo p.length rfl rfl rfl rfl rfl (by omega) (by omega)) ?_
 refine qD ?_
 refine qB rfl ?_
 refine qA (qC (v := .slice _ _ _) rfl) ?_
 refine qA (wP rfl rfl) ?_
 refine qA (qE (v := .int .i64 _) rfl) ?_
 refine qD ?_
 refine qD ?_
 refine qB rfl ?_
 refine qA (qC (v := .int .i64 _) rfl) ?_
 refine qA (qL (v := .bool _) rfl) ?_
 refine zC rfl (rfl) ?_
 refine qO ?_
 refine qD ?_
 refine qB rfl ?_
 refine qA (qC (v := .slice _ _ _) rfl) ?_
 refine qA (wP rfl rfl) ?_
 refine qA (qE (v := .int .i64 _) rfl) ?_
 refine qD ?_
 refine qD ?_
 refine qB rfl ?_
 refine qA (qC (v := .int .i64 _) rfl) ?_
 refine qA (qC (v := .int .i64 _) rfl) ?_
 refine qA (qL (v := .bool _) rfl) ?_
 refine zC rfl ((by rw [natBeq]; exact decide_eq_false (by omega))) ?_
 refine qO ?_
 refine qD ?_
 refine qD ?_
 refine qB rfl ?_
 refine qA (qC (v := .int .i64 _) rfl) ?_
 refine qA (qC (v := .int .i64 _) rfl) ?_
 refine qA (qT rfl (by omega)) ?_
 refine qA (qC (v := .slice _ _ _) rfl) ?_
 refine qA (pv_cap rfl rfl) ?_
 refine qA (qL (v := .bool _) rfl) ?_
 refine qR rfl (fun hroom => ?_) (fun hroom => ?_)
 ·skip
  have hr : cap < n + 1 := by have := of_decide_eq_true hroom; omega
  refine qD ?_
  refine qB rfl ?_
  refine qA (qC (v := .slice _ _ _) rfl) ?_
  refine qA (qC (v := .int .i64 _) rfl) ?_
  refine qA (pv_sliceHi p.length rfl rfl rfl rfl rfl (by omega)) ?_
  refine qA (qC (v := .int .i64 _) rfl) ?_
  refine qA (qC (v := .int .i64 _) rfl) ?_
  refine qA (qT rfl (by omega)) ?_
  refine qA (qC (v := .int .i64 _) rfl) ?_
  refine qA (qT rfl (by omega)) ?_
  refine op_appendMake (m := 1) (k := n + 1 - p.length) (cs := p.flatMap intC) rfl rfl (by omega) (fun V => rdAt [] _ (q.flatMap intC ++ J) (i := 0) V rfl rfl (by simp)) (by rw [hA]; exact (Nat.mul_one _).symm) rfl rfl rfl rfl rfl rfl rfl (by decide) rfl (by omega) (by omega) (by omega) fun b9 cap9 j9 h9 hj9 hcap9 => ?_
  refine qK [_, _, _] rfl ?_
  obtain ⟨X, hX, hXl⟩ := gap_new (p.flatMap intC) (q.flatMap intC) j9 (.int .i64 z) (by omega)
  rw [hA] at hX
  have hsum : p.length + (n + 1 - p.length) = n + 1 := by omega
  refine qA (qE (v := .slice _ _ _) rfl) ?_
  refine qD ?_
  refine qB rfl ?_
  refine qA (qC (v := .slice _ _ _) rfl) ?_
  refine qA (qC (v := .int .i64 _) rfl) ?_
  refine qA (pv_sliceLoS p.length (A' := some ⟨b9, p.length, none⟩) (l' := n + 1 - p.length) (c' := cap9 - p.length) rfl rfl rfl rfl rfl (by omega) (by omega) (slA (by omega)) (by omega) rfl) ?_
  refine qA (qC (v := .slice _ _ _) rfl) ?_
  refine op_copyP 2 (cs := p.flatMap intC ++ j9) (xs := [Value.int .i64 z]) (k := 1) rfl rfl rfl (by show min _ _ = _; omega) (fun V => rdP V (i := 1) rfl) rfl rfl rfl rfl (by simp only [List.length_append, List.length_cons, List.length_nil]; omega) rfl ?_
  refine qK [_, _, _] rfl ?_
  refine qD ?_
  refine xp_dw [] rfl rfl rfl ?_
  refine qI (i := 0) rfl (by decide +kernel) (qC (v := .slice _ _ _) rfl) ?_
  refine qI (i := 1) rfl (by decide +kernel) (qC (v := .int .i64 _) rfl) ?_
  refine qI (i := 2) rfl (by decide +kernel) (qC (v := .int .i64 _) rfl) ?_
  refine qI (i := 3) rfl (by decide +kernel) (qT rfl (by omega)) ?_
  refine qI (i := 4) rfl (by decide +kernel) (pv_sliceLoS (p.length + 1) (A' := some ⟨b9, p.length + 1, none⟩) (l' := n - p.length) (c' := cap9 - (p.length + 1)) rfl rfl (by omega) rfl rfl (by omega) (by omega) (slA (by omega)) (by omega) rfl) ?_
  refine qI (i := 5) rfl (by decide +kernel) (qC (v := .slice _ _ _) rfl) ?_
  refine qI (i := 6) rfl (by decide +kernel) (qC (v := .int .i64 _) rfl) ?_
  refine qI (i := 7) rfl (by decide +kernel) (pv_sliceLoS p.length (A' := some ⟨b0, p.length, none⟩) (l' := n - p.length) (c' := cap - p.length) rfl rfl rfl rfl rfl (by omega) (by omega) (slA (by omega)) (by omega) rfl) ?_
  refine zF (i := 8) rfl (by decide +kernel) (by decide +kernel) ?_
  refine op_copyP 2 (xs := q.flatMap intC) (k := n - p.length) rfl rfl rfl (by show min _ _ = _; omega) (fun V => rdAt (p.flatMap intC) _ J (i := 0) V rfl hA.symm rfl) (by rw [hB]; show _ = _ * 1; omega) (flat_plain intP2 q) rfl rfl (by rw [wrL_len]; simp only [List.length_append, List.length_cons, List.length_nil]; omega) hX ?_
  refine wS [_, _, _] rfl ?_
  refine zI rfl ?_
  refine qD ?_
  refine qB rfl ?_
  refine qA (qC (v := .slice _ _ _) rfl) ?_
  refine qA (qE (v := .slice _ _ _) rfl) ?_
  refine qV ?_
  refine qN (vs := [_]) Try.results131 ⟨qM rfl rfl, trivial⟩ fun V => ?_
  obtain ⟨h9, E9, e9, V9⟩ := wl_shed [_, _, _] [] V
  exact ⟨h9, [], e9, V9, zM (Ext.refl _) E9, rfl, shed_row e9 (AccP.row (m := 1) (enc := intC) (i := 2) (l := p ++ z :: q) (by show AccP _ _ _ _ (.slice _ (p.length + (n + 1 - p.length)) _); rw [hsum]; exact fin X b9 cap9 (by omega)) (by omega) (fun _ _ => rfl) V rfl)⟩
 ·skip
  have hr : n + 1 ≤ cap := by have := of_decide_eq_false hroom; omega
  obtain ⟨g0, X, hX, hXl, hX2⟩ := gap_len (p.flatMap intC) (q.flatMap intC) J hqB (List.length_pos_iff.1 (by omega))
  rw [hA] at hX hX2
  refine qO ?_
  refine qD ?_
  refine qB rfl ?_
  refine qA (qC (v := .slice _ _ _) rfl) ?_
  refine qA (qC (v := .int .i64 _) rfl) ?_
  refine qA (qC (v := .int .i64 _) rfl) ?_
  refine qA (qT rfl (by omega)) ?_
  refine qA (pv_sliceHi (n + 1) rfl rfl (by omega) rfl rfl (by omega)) ?_
  refine qA (qE (v := .slice _ _ _) rfl) ?_
  refine qD ?_
  refine qD ?_
  refine qB rfl ?_
  refine qA (qC (v := .slice _ _ _) rfl) ?_
  refine qA (qC (v := .slice _ _ _) rfl) ?_
  refine qA (qC (v := .int .i64 _) rfl) ?_
  refine qA (qC (v := .int .i64 _) rfl) ?_
  refine qA (qT rfl (by omega)) ?_
  refine qA (pv_sliceLoS (p.length + 1) (A' := some ⟨b0, p.length + 1, none⟩) (l' := n - p.length) (c' := cap - (p.length + 1)) rfl rfl (by omega) rfl rfl (by omega) (by omega) (slA (by omega)) (by omega) rfl) ?_
  refine op_overlaps (tS := 22) (e := 3) (size := 1) (rs := #[4]) rfl Try.func137 (by kernel_rfl) (by kernel_rfl) (by kernel_rfl) (by kernel_rfl) rfl rfl rfl (fun V => zK V (i := 1) rfl) (fun V => zK V (i := 0) rfl) (fun V => (valid_ne V).symm) ?_
  refine qA (qL (v := .bool _) rfl) ?_
  refine xp_condT rfl (rfl) ?_
  refine qD ?_
  refine xp_dw [] rfl rfl rfl ?_
  refine qI (i := 0) rfl (by decide +kernel) (qC (v := .slice _ _ _) rfl) ?_
  refine qI (i := 1) rfl (by decide +kernel) (qC (v := .int .i64 _) rfl) ?_
  refine qI (i := 2) rfl (by decide +kernel) (qC (v := .int .i64 _) rfl) ?_
  refine qI (i := 3) rfl (by decide +kernel) (qT rfl (by omega)) ?_
  refine qI (i := 4) rfl (by decide +kernel) (pv_sliceLoS (p.length + 1) (A' := some ⟨b0, p.length + 1, none⟩) (l' := n - p.length) (c' := cap - (p.length + 1)) rfl rfl (by omega) rfl rfl (by omega) (by omega) (slA (by omega)) (by omega) rfl) ?_
  refine qI (i := 5) rfl (by decide +kernel) (qC (v := .slice _ _ _) rfl) ?_
  refine qI (i := 6) rfl (by decide +kernel) (qC (v := .int .i64 _) rfl) ?_
  refine qI (i := 7) rfl (by decide +kernel) (pv_sliceLoS p.length (A' := some ⟨b0, p.length, none⟩) (l' := n + 1 - p.length) (c' := cap - p.length) rfl rfl rfl rfl rfl (by omega) (by omega) (slA (by omega)) (by omega) rfl) ?_
  refine zF (i := 8) rfl (by decide +kernel) (by decide +kernel) ?_
  refine op_copyP 0 (cs := p.flatMap intC ++ q.flatMap intC ++ J) (xs := q.flatMap intC) (k := n - p.length) rfl rfl rfl (by show min _ _ = _; omega) (fun V => rdAt (p.flatMap intC) _ J (i := 0) V rfl hA.symm rfl) (by rw [hB]; show _ = _ * 1; omega) (flat_plain intP2 q) rfl rfl (by simp only [List.length_append, List.length_cons, List.length_nil]; omega) hX ?_
  refine wS [_, _] rfl ?_
  refine zI rfl ?_
  refine qD ?_
  refine qB rfl ?_
  refine qA (qC (v := .slice _ _ _) rfl) ?_
  refine qA (qC (v := .int .i64 _) rfl) ?_
  refine qA (pv_sliceLoS p.length (A' := some ⟨b0, p.length, none⟩) (l' := n + 1 - p.length) (c' := cap - p.length) rfl rfl rfl rfl rfl (by omega) (by omega) (slA (by omega)) (by omega) rfl) ?_
  refine qA (qC (v := .slice _ _ _) rfl) ?_
  refine op_copyP 0 (xs := [Value.int .i64 z]) (k := 1) rfl rfl rfl (by show min _ _ = _; omega) (fun V => rdP V (i := 1) rfl) rfl rfl rfl rfl (by simp only [List.length_append, List.length_cons, List.length_nil]; omega) (hX2 (.int .i64 z)) ?_
  refine qK [_, _] rfl ?_
  refine qD ?_
  refine qB rfl ?_
  refine qA (qC (v := .slice _ _ _) rfl) ?_
  refine qA (qE (v := .slice _ _ _) rfl) ?_
  refine qV ?_
  refine qN (vs := [_]) Try.results131 ⟨qM rfl rfl, trivial⟩ fun V => ?_
  obtain ⟨h9, E9, e9, V9⟩ := wl_shed [_, _] [] V
  exact ⟨h9, [], e9, V9, zM (Ext.refl _) E9, rfl, shed_row e9 (AccP.row (m := 1) (enc := intC) (i := 0) (l := p ++ z :: q) (fin X b0 cap (by omega)) (by omega) (fun _ _ => rfl) V rfl)⟩
end
end Go.Proofs.Ythphpbdmbmiaiaa
namespace Go.Proofs.Ythphpbdmbmiaiaa
open Go Go.HL Go.Proofs Go.Wx Go.Rd
section
variable [Lvl]
set_option maxRecDepth 100000
theorem del_ok (p q : List Int) (x : Int) (b0 n cap : Nat) (J : List Value) (h : AH) (hn : n = p.length + 1 + q.length) (hc : n + J.length = cap) (hl : n < 2 ^ 20) :
  FnM Try.prog (.func (.func 132) #[] ([] : List Value).toArray) [.slice (some ⟨b0, 0, none⟩) n cap, .int .i64 (p.length : Int), .int .i64 ((p.length : Int) + 1)] h [some (b0, .cells (p.flatMap intC ++ [Value.int .i64 x] ++ q.flatMap intC ++ J).toArray 3 (0, 0))] (fun v h' M' => M' = [] ∧ SlR h' 1 intC (p ++ q) v) := by
 have hA := flatI p
 have hB := flatI q
 obtain ⟨X, hX, hXl, Y, hY, hYl⟩ := gap_shut (p.flatMap intC) (q.flatMap intC) J (.int .i64 x) (.int .i64 0)
 rw [hA] at hX hY
 rw [hB] at hY
 have fin : AccP 3 1 ((p ++ q).flatMap intC) (some (b0, .cells (p.flatMap intC ++ q.flatMap intC ++ Y).toArray 3 (0, 0))) (.slice (some ⟨b0, 0, none⟩) (p.length + q.length) cap) := by
  have e : (p ++ q).flatMap intC = p.flatMap intC ++ q.flatMap intC := List.flatMap_append
  refine .inr ⟨b0, p.length + q.length, cap, Y, ?_, rfl, by rw [e], ?_⟩
  ·rw [flatI, List.length_append]; omega
  ·rw [List.length_append, flatI, List.length_append]; omega
 refine fnM_body rfl rfl Try.func132 rfl Try.ntmps132 rfl ?_
 refine qD ?_
 refine qB rfl ?_
 refine qA (qE (v := .slice _ _ _) rfl) ?_
 refine qD ?_
 refine qB rfl ?_
 refine qA (qC (v := .slice _ _ _) rfl) ?_
 refine qA (qC (v := .int .i64 _) rfl) ?_
 refine qA (qC (v := .int .i64 _) rfl) ?_
 refine qA (qC (v := .slice _ _ _) rfl) ?_
 refine qA (wP rfl rfl) ?_
 refine qA (pv_slice3 p.length (p.length + 1) n rfl rfl rfl rfl rfl (by omega) rfl rfl rfl (by omega) (by omega) (by omega)) ?_
 refine qD ?_
 refine qD ?_
 refine qB rfl ?_
 refine qA (qC (v := .int .i64 _) rfl) ?_
 refine qA (qC (v := .int .i64 _) rfl) ?_
 refine qA (qL (v := .bool _) rfl) ?_
 refine zC rfl ((by show decide _ = _; exact decide_eq_false (by omega))) ?_
 refine qO ?_
 refine qD ?_
 refine qB rfl ?_
 refine qA (qC (v := .slice _ _ _) rfl) ?_
 refine qA (wP rfl rfl) ?_
 refine qA (qE (v := .int .i64 _) rfl) ?_
 refine qD ?_
 refine xp_dw [] rfl rfl rfl ?_
 refine qI (i := 0) rfl (by decide +kernel) (qC (v := .slice _ _ _) rfl) ?_
 refine qI (i := 1) rfl (by decide +kernel) (qC (v := .int .i64 _) rfl) ?_
 refine qI (i := 2) rfl (by decide +kernel) (pv_sliceHi p.length rfl rfl rfl rfl rfl (by omega)) ?_
 refine qI (i := 3) rfl (by decide +kernel) (qC (v := .slice _ _ _) rfl) ?_
 refine qI (i := 4) rfl (by decide +kernel) (qC (v := .int .i64 _) rfl) ?_
 refine qI (i := 5) rfl (by decide +kernel) (pv_sliceLo (p.length + 1) rfl rfl rfl rfl rfl (by omega) (by omega)) ?_
 refine zF (i := 6) rfl (by decide +kernel) (by decide +kernel) ?_
 refine op_appendIn 0 (m := 1) (cs := p.flatMap intC ++ [Value.int .i64 x] ++ q.flatMap intC ++ J) (cs' := p.flatMap intC ++ q.flatMap intC ++ X) (xs := q.flatMap intC) rfl rfl rfl (fun V => rdIf (p.flatMap intC ++ [Value.int .i64 x]) (q.flatMap intC) J (i := 0) V rfl (by simp only [List.length_append, List.length_cons, List.length_nil]; omega) rfl (fun hne => by have := List.length_pos_iff.2 hne; omega)) (by omega) (flat_plain intP2 q) rfl rfl rfl (by omega) (by simp only [List.length_append, List.length_cons, List.length_nil]; omega) (by rw [Nat.mul_one]; exact hX) ?_
 refine wS [_] rfl ?_
 refine qI (i := 7) rfl (by decide +kernel) (qE (v := .slice _ _ _) rfl) ?_
 refine zI rfl ?_
 refine qD ?_
 refine qB rfl ?_
 refine qA (qC (v := .slice _ _ _) rfl) ?_
 refine qA (qC (v := .slice _ _ _) rfl) ?_
 refine qA (wP rfl rfl) ?_
 refine qA (qC (v := .int .i64 _) rfl) ?_
 refine qA (pv_sliceS (p.length + q.length) n (A' := some ⟨b0, p.length + q.length, none⟩) (l' := 0 + 1) (c' := cap - (p.length + q.length)) rfl rfl rfl (by omega) rfl rfl rfl (by omega) (by omega) (slA (by omega)) (by omega) rfl) ?_
 refine op_clearP 0 (m := 1) (z := .int .i64 0) (zc := [Value.int .i64 0]) rfl rfl rfl rfl rfl rfl rfl (by simp only [List.length_append, List.length_cons, List.length_nil]; omega) hY ?_
 refine qK [_] rfl ?_
 refine qD ?_
 refine qB rfl ?_
 refine qA (qC (v := .slice _ _ _) rfl) ?_
 refine qA (qE (v := .slice _ _ _) rfl) ?_
 refine qV ?_
 refine qN (vs := [_]) Try.results132 ⟨qM rfl rfl, trivial⟩ fun V => ?_
 obtain ⟨h9, E9, e9, V9⟩ := wl_shed [_] [] V
 exact ⟨h9, [], e9, V9, zM (Ext.refl _) E9, rfl, shed_row e9 (AccP.row (m := 1) (enc := intC) (i := 0) (l := p ++ q) (by show AccP _ _ _ _ (.slice _ (p.length + (n - (p.length + 1))) _); rw [show p.length + (n - (p.length + 1)) = p.length + q.length from by omega]; exact fin) (by omega) (fun _ _ => rfl) V rfl)⟩
end
end Go.Proofs.Ythphpbdmbmiaiaa
