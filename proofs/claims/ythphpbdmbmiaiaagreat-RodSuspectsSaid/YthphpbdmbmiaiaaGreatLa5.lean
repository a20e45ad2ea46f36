/- An own logic over the model, its walks and its plain laws, joined of parts GP R19 GQ Rm Rn Ro R20 R21 U Uc Rp GS R23 R29 R30 R31 Rq R32 R25 R26 R33 R34 Rs R35 R36 R37 R38 GT. Conditions: as each theorem states. -/
import Derived.Test.YthphpbdmbmiaiaaGreatLa4
import Derived.Test.YthphpbdmbmiaiaaGreatLa1
import Derived.Test.YthphpbdmbmiaiaaGreatLa2
import Derived.Conc.LeavingOf
set_option linter.all false
namespace Go.HL
open Go
variable [Lvl]
section
variable {P : Program} {n : Nat} {ops : Array Oper}
theorem T1_fin {o : Oper} {S : Sl} {H : AH} {X : Sl → AH → Prop} (t : T1 P n ops o X S H) (f : Fin H) : T1 P n ops o (fun S' H' => Fin H' ∧ X S' H') S H := by
 unfold T1 at t ⊢
 split
 ·rename_i hg
  rw [hg] at t
  exact opW_fin t f
 ·rename_i j w hg
  rw [hg] at t
  obtain ⟨b, h1, h2, h3⟩ := t
  exact ⟨b, h1, fun e => opW_fin (h2 e) f, fun e => ⟨f, h3 e⟩⟩
theorem T1_guard {o : Oper} {j : Nat} {w : Bool} (hg : o.guard = some (j, w)) {S : Sl} {H : AH} {X : Sl → AH → Prop} :
  T1 P n ops o X S H ↔ (gval (ev n S (.tmp (((ops[j]?).bind (·.dst)).getD n))) = some w → T1 P n ops { o with guard := none } X S H) ∧ (gval (ev n S (.tmp (((ops[j]?).bind (·.dst)).getD n))) ≠ some w → X (put S o.dst undef) H) := by
 obtain ⟨d, op, ty, ps, af, gd⟩ := o
 simp only at hg
 subst hg
 constructor
 ·rintro ⟨b, h1, h2, h3⟩
  subst h1
  exact ⟨fun e => h2 e, fun e => h3 e⟩
 ·rintro ⟨h2, h3⟩
  exact ⟨_, rfl, fun e => h2 e, fun e => h3 e⟩
theorem el_left {d : Nat} : ∀ {a b : List Nat}, el d (a ++ b) = false → el d a = false
 | [], _, _ => rfl
 | x :: a, b, h => by
  rw [List.cons_append, zS, Bool.or_eq_false_iff] at h
  rw [zS, h.1, el_left h.2]
  rfl
theorem apart_bare {oi oj : Oper} (h : apart (ops := ops) oi oj = true) : apart (ops := ops) oi { oj with guard := none } = true := by
 unfold apart at h ⊢
 rw [Bool.and_eq_true] at h ⊢
 refine ⟨?_, h.2⟩
 have h1 := h.1
 cases hd : oi.dst with
 | none => rfl
 | some d =>
  rw [hd] at h1
  simp only [Bool.and_eq_true, Bool.not_eq_true'] at h1 ⊢
  refine ⟨?_, h1.2⟩
  have : reads ops { oj with guard := none } = opTmps oj.op ++ [] := rfl
  rw [this, List.append_nil]
  exact el_left h1.1
theorem guard_same {oi oj : Oper} {j : Nat} {w : Bool} (hg : oj.guard = some (j, w)) (hap : apart (ops := ops) oi oj = true) (S : Sl) (v : Value) :
  ev n (put S oi.dst v) (.tmp (((ops[j]?).bind (·.dst)).getD n)) = ev n S (.tmp (((ops[j]?).bind (·.dst)).getD n)) := by
 cases hd : (ops[j]?).bind (·.dst) with
 | none => simp [ev]
 | some d =>
  have := put_agree hap S v d (List.mem_append_right _ (by simp [guardT, hg, hd]))
  simp only [Option.getD_some, ev]
  rw [this]
theorem swap_freeG {oi oj : Oper} {S : Sl} {H : AH} {Y : Sl → AH → Prop} (hf : freeOp oj.op = true) (hap : apart (ops := ops) oi oj = true) (fH : Fin H)
  (t : T1 P n ops oi (fun S' H' => T1 P n ops oj Y S' H') S H) : T1 P n ops oj (fun S' H' => Ext H H' ∧ T1 P n ops oi Y S' H') S H := by
 cases hg : oj.guard with
 | none => exact swap_free hf hg hap fH t
 | some jw =>
  obtain ⟨j, w⟩ := jw
  rw [T1_guard hg]
  constructor
  ·intro hv
   refine swap_free (oj := { oj with guard := none }) hf rfl (apart_bare hap) fH ?_
   refine T1_mono' (fun v H' y => ?_) t
   exact ((T1_guard hg).1 y).1 (by rw [guard_same hg hap]; exact hv)
  ·intro hv
   refine ⟨Ext.refl H, ?_⟩
   have t2 : T1 P n ops oi (fun S' H' => Y (put S' oj.dst undef) H') S H := T1_mono' (fun v H' y => ((T1_guard hg).1 y).2 (by rw [guard_same hg hap]; exact hv)) t
   refine T1_agree (X := fun S' H' => Y (put S' oj.dst undef) H') (fun x hx => (put_agree (apart_symm hap) S undef x hx).symm) ?_ t2
   intro v H' y
   rw [put_swap hap S v undef] at y
   exact y
theorem take_anyG {X : Sl → AH → Prop} {i : Nat} {oi : Oper} (hoi : ops[i]? = some oi) :
  ∀ (m : Nat) (dn ac : List Nat) (G : Gh) (S : Sl) (H : AH), Fin H → (left ops dn).length = m + 1 → ready ops dn i = true → (∀ k, el k (blk ops i) = true → el k dn = false) → GT ops ac G H →
   (∀ g ∈ G, ∀ H1 H2, Ext H1 H2 → g.2 H1 → g.2 H2) →
   (∀ j oj, ops[j]? = some oj → j ≠ i → el j dn = false → el j (blk ops i) = false → freeOp oj.op = true ∧ apart (ops := ops) oi oj = true) →
   T1 P n ops oi (fun S' H' => GT ops (i :: ac) G H' ∧ WG P n ops m (i :: dn) (i :: ac) G X S' H') S H → WG P n ops (m + 1) dn ac G X S H := by
 intro m
 induction m with
 | zero =>
  intro dn ac G S H fH hl hr hal hgt hmo _ w j oj hoj hrj
  obtain ⟨hi, hdi⟩ := ready_lt hr
  obtain ⟨hj, hdj⟩ := ready_lt hrj
  by_cases hji : j = i
  ·subst hji
   rw [hoi] at hoj
   obtain rfl := Option.some.inj hoj
   exact w
  ·exact (left_two hi hj hdi hdj hji hl).elim
 | succ m ih =>
  intro dn ac G S H fH hl hr hal hgt hmo hfr w j oj hoj hrj
  obtain ⟨hi, hdi⟩ := ready_lt hr
  obtain ⟨hj, hdj⟩ := ready_lt hrj
  by_cases hji : j = i
  ·subst hji
   rw [hoi] at hoj
   obtain rfl := Option.some.inj hoj
   exact w
  ·have hnb := not_blk hrj hdi hal
   obtain ⟨hf, hap⟩ := hfr j oj hoj hji hdj hnb
   have w1 : T1 P n ops oi (fun S' H' => T1 P n ops oj (fun S2 H2 => GT ops (j :: i :: ac) G H2 ∧ WG P n ops m (j :: i :: dn) (j :: i :: ac) G X S2 H2) S' H') S H :=
    T1_mono (fun S' H' y => y.2 j oj hoj (ready_more hrj hji)) w
   have w2 := swap_freeG hf hap fH w1
   have w3 : T1 P n ops oj (fun S' H' => Fin H' ∧ Ext H H' ∧ T1 P n ops oi (fun S2 H2 => GT ops (j :: i :: ac) G H2 ∧ WG P n ops m (j :: i :: dn) (j :: i :: ac) G X S2 H2) S' H') S H := by
    exact T1_mono (fun S' H' y => ⟨y.1, y.2.1, y.2.2⟩) (T1_fin w2 fH)
   refine T1_mono ?_ w3
   rintro S' H' ⟨f', hE, y⟩
   have hpd : ∀ k, el k (j :: i :: dn) = el k (i :: j :: dn) := fun k => by simp only [zS]; cases (k == j) <;> cases (k == i) <;> rfl
   have hpa : ∀ k, el k (j :: i :: ac) = true → el k (i :: j :: ac) = true := fun k => by
    simp only [zS, Bool.or_eq_true]
    rintro (h | h | h)
    ·exact .inr (.inl h)
    ·exact .inl h
    ·exact .inr (.inr h)
   have hal' : ∀ k, el k (blk ops i) = true → el k (j :: dn) = false := fun k hk => by
    simp only [zS, hal k hk, Bool.or_false]
    cases hkj : (k == j) with
    | false => rfl
    | true => rw [beq_iff_eq] at hkj; subst hkj; rw [hk] at hnb; cases hnb
   have hgt' : GT ops (j :: ac) G H' := fun g hg2 a => hmo g hg2 H H' hE (hgt g hg2 (alive_less (fun k hk => by simp [zS, hk]) a))
   refine ⟨hgt', ?_⟩
   refine ih (j :: dn) (j :: ac) G S' H' f' (left_cons hj hdj hl) (ready_more hr (fun e => hji e.symm)) hal' hgt' hmo ?_ (T1_mono (fun S2 H2 z => ⟨GT_more hpa z.1, WG_perm m _ _ _ _ hpd hpa _ _ z.2⟩) y)
   intro k ok hok hki hdk hbk
   exact hfr k ok hok hki (by simp only [zS, Bool.or_eq_false_iff] at hdk; exact hdk.2) hbk
def okH (ops : Array Oper) (dn : List Nat) (i : Nat) : Bool :=
 ready ops dn i && (blk ops i).all (fun k => !el k dn) &&
 match ops[i]? with
 | some oi => (List.range ops.size).all fun j => j == i || el j dn || el j (blk ops i) || (match ops[j]? with | some oj => freeOp oj.op && apart (ops := ops) oi oj | none => true)
 | none => false
end
section
variable {P : Program} {n : Nat} {ops : Array Oper} {i : Nat} {d : Option Tmp} {op : Op} {ty : TypeId} {ps : String} {af : Array Edge} {S : Sl} {L : Pv} {h : AH} {mask : List Bool} {X : Sl → AH → Prop} {dn ac : List Nat}
theorem dw_effH {j : Nat} {want t : Bool} (hoi : ops[i]? = some ⟨d, op, ty, ps, af, some (j, want)⟩) (hok : okH ops dn i = true)
  (ht : ev n S (.tmp (((ops[j]?).bind (·.dst)).getD n)) = .bool t) (hb : t = want) (w : wpL P n ops [⟨d, op, ty, ps, af, none⟩] (fun S' L' h' => Ext (wl h (rmM mask L)) (wl h' (rmM mask L')) ∧ Dw P n ops mask X (i :: dn) (i :: ac) S' L' h') (fun _ _ _ _ => False) S L h) : Dw P n ops mask X dn ac S L h := by
 intro V G hG
 unfold okH at hok
 rw [hoi] at hok
 simp only [Bool.and_eq_true] at hok
 obtain ⟨⟨hr, hbl⟩, hap⟩ := hok
 obtain ⟨m, hm⟩ := left_pos hr
 obtain ⟨hi, hdi⟩ := ready_lt hr
 rw [hm]
 refine take_anyG hoi m dn ac G S (wl h L) (fin_wl V) hm hr ?_ ?_ (fun g hg => (hG g hg).2.1) ?_ ?_
 ·intro x hx
  have := List.all_eq_true.1 hbl x ((el_mem _ _).1 hx)
  simpa using this
 ·intro g hg _
  exact (hG g hg).2.1 _ _ (ext_rm V) (hG g hg).2.2
 ·intro j oj hoj hji hdj hbj
  have hjl : j < ops.size := (Array.getElem?_eq_some_iff.1 hoj).1
  have := List.all_eq_true.1 hap j (by simpa using hjl)
  rw [hoj, hdj, hbj] at this
  simp only [Bool.or_false, Bool.or_eq_true, beq_iff_eq, Bool.and_eq_true] at this
  exact this.resolve_left hji
 ·refine ⟨some t, by rw [ht]; rfl, fun _ => ?_, fun hn => absurd (congrArg some hb) hn⟩
  show opW P n ⟨d, op, ty, ps, af, none⟩ S (wl h L) _ noE
  refine opW_mono ?_ ?_ (w V)
  ·rintro v H ⟨L', h', rfl, V', hE, hD⟩
   have hG' : ∀ g ∈ G, ((∀ H, g.2 H) ∨ (isLd ops g.1 = true ∧ el g.1 (i :: dn) = true)) ∧ (∀ H1 H2, Ext H1 H2 → g.2 H1 → g.2 H2) ∧ g.2 (wl h' (rmM mask L')) := by
    intro g hg
    obtain ⟨h1, h2, h3⟩ := hG g hg
    exact ⟨h1.imp id (fun e => ⟨e.1, by simp [zS, e.2]⟩), h2, h2 _ _ hE h3⟩
   refine ⟨fun g hg _ => (hG' g hg).2.1 _ _ (ext_rm V') (hG' g hg).2.2, ?_⟩
   have := hD V' G hG'
   rw [left_cons hi hdi hm] at this
   exact this
  ·rintro v H ⟨L', h', rfl, V', y⟩; exact y
theorem dw_lastH {j : Nat} {want t : Bool} (hoi : ops[i]? = some ⟨d, op, ty, ps, af, some (j, want)⟩) (hok : okH ops dn i = true) (hl : okL ops dn i = true)
  (ht : ev n S (.tmp (((ops[j]?).bind (·.dst)).getD n)) = .bool t) (hb : t = want) (w : wpL P n ops [⟨d, op, ty, ps, af, none⟩] (fun S' L' h' => Dw P n ops mask X (i :: dn) (i :: ac) S' L' h') (fun _ _ _ _ => False) S L h) : Dw P n ops mask X dn ac S L h := by
 intro V G hG
 unfold okH at hok
 rw [hoi] at hok
 simp only [Bool.and_eq_true] at hok
 obtain ⟨⟨hr, hbl⟩, hap⟩ := hok
 obtain ⟨m, hm⟩ := left_pos hr
 obtain ⟨hi, hdi⟩ := ready_lt hr
 rw [hm]
 refine take_anyG hoi m dn ac G S (wl h L) (fin_wl V) hm hr ?_ ?_ (fun g hg => (hG g hg).2.1) ?_ ?_
 ·intro x hx
  have := List.all_eq_true.1 hbl x ((el_mem _ _).1 hx)
  simpa using this
 ·intro g hg _
  exact (hG g hg).2.1 _ _ (ext_rm V) (hG g hg).2.2
 ·intro j oj hoj hji hdj hbj
  have hjl : j < ops.size := (Array.getElem?_eq_some_iff.1 hoj).1
  have := List.all_eq_true.1 hap j (by simpa using hjl)
  rw [hoj, hdj, hbj] at this
  simp only [Bool.or_false, Bool.or_eq_true, beq_iff_eq, Bool.and_eq_true] at this
  exact this.resolve_left hji
 ·refine ⟨some t, by rw [ht]; rfl, fun _ => ?_, fun hn => absurd (congrArg some hb) hn⟩
  show opW P n ⟨d, op, ty, ps, af, none⟩ S (wl h L) _ noE
  refine opW_mono ?_ ?_ (w V)
  ·rintro v H ⟨L', h', rfl, V', hD⟩
   -- the facts that are still asked hold everywhere
   have hdead : ∀ g ∈ G, (∀ H, g.2 H) ∨ ¬ alive ops (i :: ac) g.1 := by
    intro g hg
    rcases (hG g hg).1 with h1 | ⟨h1, h2⟩
    ·exact .inl h1
    ·right
     intro a
     have := List.all_eq_true.1 hl g.1 ((el_mem _ _).1 h2)
     rw [h1] at this
     simp only [Bool.not_true, Bool.false_or] at this
     have := a i this
     simp [zS] at this
   refine ⟨fun g hg a => ((hdead g hg).resolve_right (fun n => n a)) _, ?_⟩
   have hall : ∀ (m : Nat) (dn' ac' : List Nat) (S' : Sl) (H' : AH), (∀ k, el k (i :: ac) = true → el k ac' = true) → WG P n ops m dn' ac' [] X S' H' → WG P n ops m dn' ac' G X S' H' := by
    intro m
    induction m with
    | zero => intro dn' ac' S' H' _ w; exact w
    | succ m ih =>
     intro dn' ac' S' H' hsub w j oj hoj hrj
     refine T1_mono (fun S2 H2 y => ⟨fun g hg a => ?_, ih _ _ _ _ (fun k hk => by simp [zS, hsub k hk]) y.2⟩) (w j oj hoj hrj)
     exact ((hdead g hg).resolve_right (fun n => n (alive_less (fun k hk => by simp [zS, hsub k hk]) a))) _
   have := hD V' [] (fun g hg => by cases hg)
   rw [left_cons hi hdi hm] at this
   exact hall m _ _ _ _ (fun _ h => h) this
  ·rintro v H ⟨L', h', rfl, V', y⟩; exact y
end
end Go.HL
namespace Go.Proofs.YthphpbdmbmiaiaaGreat
open Go Go.HL Go.Proofs Go.Wx Go.Rd
section
variable [Lvl]
set_option maxRecDepth 100000
theorem m0_hand : checkHandM mach0 ⟨[0, 1], []⟩ = 0 := by decide +kernel
theorem m0_lifts : liftsL mach0 ⟨[0, 1], []⟩ = [4, 3, 1, 0] := by decide +kernel
theorem m0_force : forceV mach0 ⟨[0, 1], []⟩ = 9 := by decide +kernel
theorem m0_hand2 : checkHandM mach0 ⟨[], [0]⟩ = 0 := by decide +kernel
theorem m0_chart : chartL mach0 [0] = [[0, 1, 2], [1]] := by decide +kernel
theorem m0_suspE : suspE mach0 (heard0 [0]) = 0 := by decide +kernel
theorem m0_suspL : suspL mach0 (heard0 [0]) = [1, 9] := by decide +kernel
theorem m0_testE : testE mach0 (heard0 [0]) = 0 := by decide +kernel
theorem m0_testN : testN mach0 (heard0 [0]) = 1 := by decide +kernel
theorem m0_testB : (testA mach0 (heard0 [0])).buttons = [1] := by decide +kernel
theorem m0_testO : (testA mach0 (heard0 [0])).on = [] := by decide +kernel
theorem m0_test : testA mach0 (heard0 [0]) = ⟨[1], []⟩ := by
 have h1 := m0_testB
 have h2 := m0_testO
 cases h : testA mach0 (heard0 [0]) with
 | mk b o => rw [h] at h1 h2; simp only at h1 h2; rw [h1, h2]
theorem hlen0 (l : List Int) (h : l.length < 2 ^ 40) : HLen (heard0 l) := ⟨by show 1 < 2 ^ 40; decide, fun x hx => by simp [heard0] at hx; subst hx; exact ⟨by show 1 < 2 ^ 40; decide, by show 0 < 2 ^ 40; decide, h⟩⟩
theorem rod_sounding (hph : Lvl.ph = true) (h : AH) : FnT Tryz.prog 6 #[] h (fun v _ => v = .bool true) := by
 have w0 : mach0.weights.length < 2 ^ 40 := by decide
 refine wM Tryz.func6 rfl Tryz.ntmps6 rfl ?_
 refine qE ?_
 refine qB rfl ?_
 refine qA (qD (v := .bool _) rfl) ?_
 refine qE ?_
 refine qB rfl ?_
 refine wJ (caps := []) (vs := []) rfl rfl rfl (machine_ok h) ?_
 rintro _ h1 E1 ⟨AB1, AQ1, AL1, AW1, cB1, cQ1, cL1, cW1, rfl, M1⟩
 refine wA (zc := [_]) (vs := [(0, .int .i64 _), (1, .int .i64 _)]) (cs := [_, _]) rfl rfl rfl rfl rfl rfl rfl fun b14 hb14 => ?_
 refine qL [_] rfl ?_
 refine wp_pub 0 rfl rfl ?_
 intro h2 E2 p2
 refine qL [_] rfl ?_
 refine wJ (caps := []) (vs := [.slice _ _ _]) rfl rfl rfl (pressed_ok [0, 1] _ _ h2) ?_
 rintro _ h3 E3 rfl
 have R2 : Row h2 1 intC (some ⟨b14, 0, none⟩) [0, 1] := row_of_block (enc := intC) (m := 1) (l := [0, 1]) (fun _ _ => rfl) p2
 have H1 := Lifts_ok hph mach0 ⟨[0, 1], []⟩ AB1 AQ1 AL1 AW1 (some ⟨b14, 0, none⟩) none cB1 cQ1 cL1 cW1 2 0 h3 (M1.ext (zT E2 E3)) ⟨R2.ext E3, row_nil _ _⟩ w0 (by decide) (by decide)
 rw [m0_hand, m0_lifts] at H1
 refine wJ (caps := []) (vs := [.agg #[.int .i64 _, .int .i64 _, .int .i64 _, .int .i64 _, .int .i64 _, .slice _ _ _, .slice _ _ _, .slice _ _ _, .slice _ _ _], .agg #[.slice _ _ _, .slice _ _ _]]) rfl rfl rfl (H1) ?_
 rintro _ h4 E4 ⟨_, rfl, A4, c4, rfl, S4⟩
 refine qA (qC (v := .tuple #[.slice _ _ _, .int .i64 _]) rfl) ?_
 refine qA (qN (v := .slice _ _ _) rfl) ?_
 refine qA (qN (v := .int .i64 _) rfl) ?_
 refine qA (qD (v := .slice _ _ _) rfl) ?_
 refine qA (qD (v := .int .i64 _) rfl) ?_
 refine qE ?_
 refine qB rfl ?_
 refine wJ (caps := []) (vs := []) rfl rfl rfl (machine_ok h4) ?_
 rintro _ h5 E5 ⟨AB2, AQ2, AL2, AW2, cB2, cQ2, cL2, cW2, rfl, M2⟩
 refine wA (zc := [_]) (vs := [(0, .int .i64 _), (1, .int .i64 _)]) (cs := [_, _]) rfl rfl rfl rfl rfl rfl rfl fun b21 hb21 => ?_
 refine qL [_, _] rfl ?_
 refine wp_pub 1 rfl rfl ?_
 intro h6 E6 p6
 refine qL [_, _] rfl ?_
 refine wJ (caps := []) (vs := [.slice _ _ _]) rfl rfl rfl (pressed_ok [0, 1] _ _ h6) ?_
 rintro _ h7 E7 rfl
 have R6 : Row h6 1 intC (some ⟨b21, 0, none⟩) [0, 1] := row_of_block (enc := intC) (m := 1) (l := [0, 1]) (fun _ _ => rfl) p6
 have H2 := Force_ok hph mach0 ⟨[0, 1], []⟩ AB2 AQ2 AL2 AW2 (some ⟨b21, 0, none⟩) none cB2 cQ2 cL2 cW2 2 0 h7 (M2.ext (zT E6 E7)) ⟨R6.ext E7, row_nil _ _⟩ w0 (by decide) (by decide)
 rw [m0_hand, m0_force] at H2
 refine wJ (caps := []) (vs := [.agg #[.int .i64 _, .int .i64 _, .int .i64 _, .int .i64 _, .int .i64 _, .slice _ _ _, .slice _ _ _, .slice _ _ _, .slice _ _ _], .agg #[.slice _ _ _, .slice _ _ _]]) rfl rfl rfl (H2) ?_
 rintro _ h8 E8 rfl
 refine qA (qC (v := .tuple #[.int .i64 _, .int .i64 _]) rfl) ?_
 refine qA (qN (v := .int .i64 _) rfl) ?_
 refine qA (qN (v := .int .i64 _) rfl) ?_
 refine qA (qD (v := .int .i64 _) rfl) ?_
 refine qA (qD (v := .int .i64 _) rfl) ?_
 refine qE ?_
 refine qB rfl ?_
 refine wJ (caps := []) (vs := []) rfl rfl rfl (machine_ok h8) ?_
 rintro _ h9 E9 ⟨AB3, AQ3, AL3, AW3, cB3, cQ3, cL3, cW3, rfl, M3⟩
 refine wA (zc := [_]) (vs := [(0, .int .i64 _)]) (cs := [_]) rfl rfl rfl rfl rfl rfl rfl fun b28 hb28 => ?_
 refine qL [_, _, _] rfl ?_
 refine wp_pub 2 rfl rfl ?_
 intro h10 E10 p10
 refine qL [_, _, _] rfl ?_
 have R10 : Row h10 1 intC (some ⟨b28, 0, none⟩) [0] := row_of_block (enc := intC) (m := 1) (l := [0]) (fun _ _ => rfl) p10
 have H3 := Chart_ok hph mach0 [0] AB3 AQ3 AL3 AW3 (some ⟨b28, 0, none⟩) cB3 cQ3 cL3 cW3 1 h10 (M3.ext E10) R10 w0 (by decide)
 rw [m0_hand2, m0_chart] at H3
 refine wJ (caps := []) (vs := [.agg #[.int .i64 _, .int .i64 _, .int .i64 _, .int .i64 _, .int .i64 _, .slice _ _ _, .slice _ _ _, .slice _ _ _, .slice _ _ _], .slice _ _ _]) rfl rfl rfl (H3) ?_
 rintro _ h11 E11 ⟨_, rfl, S11⟩
 obtain ⟨cs11, A11, c11, rfl, R11, L11⟩ := SlX.els S11
 refine qA (qC (v := .tuple #[.slice _ _ _, .int .i64 _]) rfl) ?_
 refine qA (qN (v := .slice _ _ _) rfl) ?_
 refine qA (qN (v := .int .i64 _) rfl) ?_
 refine qA (qD (v := .slice _ _ _) rfl) ?_
 refine qA (qD (v := .int .i64 _) rfl) ?_
 refine qE ?_
 refine qB rfl ?_
 refine wJ (caps := []) (vs := []) rfl rfl rfl (machine_ok h11) ?_
 rintro _ h12 E12 ⟨AB4, AQ4, AL4, AW4, cB4, cQ4, cL4, cW4, rfl, M4⟩
 refine wA (zc := [_]) (vs := [(0, .int .i64 _)]) (cs := [_]) rfl rfl rfl rfl rfl rfl rfl fun b34 hb34 => ?_
 refine qL [_, _, _, _] rfl ?_
 refine wp_pub 3 rfl rfl ?_
 intro h13 E13 p13
 refine qL [_, _, _, _] rfl ?_
 have R13 : Row h13 1 intC (some ⟨b34, 0, none⟩) [0] := row_of_block (enc := intC) (m := 1) (l := [0]) (fun _ _ => rfl) p13
 refine wJ (caps := []) (vs := [.slice _ _ _]) rfl rfl rfl (sounded_ok [0] _ _ h13 R13) ?_
 rintro _ h14 E14 ⟨UA4, cU4, cs4, rfl, RU4, EU4⟩
 have H4 := Suspects_ok hph mach0 (heard0 [0]) (hlen0 _ (by decide)) AB4 AQ4 AL4 AW4 UA4 cB4 cQ4 cL4 cW4 cU4 cs4 h14 (M4.ext (zT E13 E14)) w0 RU4 EU4
 rw [m0_suspE, m0_suspL] at H4
 refine wJ (caps := []) (vs := [.agg #[.int .i64 _, .int .i64 _, .int .i64 _, .int .i64 _, .int .i64 _, .slice _ _ _, .slice _ _ _, .slice _ _ _, .slice _ _ _], .slice _ _ _]) rfl rfl rfl (H4) ?_
 rintro _ h15 E15 ⟨_, rfl, A15, c15, rfl, S15⟩
 refine qA (qC (v := .tuple #[.slice _ _ _, .int .i64 _]) rfl) ?_
 refine qA (qN (v := .slice _ _ _) rfl) ?_
 refine qA (qN (v := .int .i64 _) rfl) ?_
 refine qA (qD (v := .slice _ _ _) rfl) ?_
 refine qA (qD (v := .int .i64 _) rfl) ?_
 refine qE ?_
 refine qB rfl ?_
 refine wJ (caps := []) (vs := []) rfl rfl rfl (machine_ok h15) ?_
 rintro _ h16 E16 ⟨AB5, AQ5, AL5, AW5, cB5, cQ5, cL5, cW5, rfl, M5⟩
 refine wA (zc := [_]) (vs := [(0, .int .i64 _)]) (cs := [_]) rfl rfl rfl rfl rfl rfl rfl fun b41 hb41 => ?_
 refine qL [_, _, _, _, _] rfl ?_
 refine wp_pub 4 rfl rfl ?_
 intro h17 E17 p17
 refine qL [_, _, _, _, _] rfl ?_
 have R17 : Row h17 1 intC (some ⟨b41, 0, none⟩) [0] := row_of_block (enc := intC) (m := 1) (l := [0]) (fun _ _ => rfl) p17
 refine wJ (caps := []) (vs := [.slice _ _ _]) rfl rfl rfl (sounded_ok [0] _ _ h17 R17) ?_
 rintro _ h18 E18 ⟨UA5, cU5, cs5, rfl, RU5, EU5⟩
 have H5 := Test_ok hph mach0 (heard0 [0]) (hlen0 _ (by decide)) AB5 AQ5 AL5 AW5 UA5 cB5 cQ5 cL5 cW5 cU5 cs5 h18 (M5.ext (zT E17 E18)) w0 RU5 EU5
 rw [m0_testE, m0_testN, m0_test] at H5
 refine wJ (caps := []) (vs := [.agg #[.int .i64 _, .int .i64 _, .int .i64 _, .int .i64 _, .int .i64 _, .slice _ _ _, .slice _ _ _, .slice _ _ _, .slice _ _ _], .slice _ _ _]) rfl rfl rfl (H5) ?_
 rintro _ h19 E19 ⟨_, rfl, V19⟩
 obtain ⟨HA, OA, cH, cO, rfl, RH⟩ := HandV.open V19
 refine qA (qC (v := .tuple #[.agg #[.slice _ _ _, .slice _ _ _], .int .i64 _, .int .i64 _]) rfl) ?_
 refine qA (qN (v := .agg #[.slice _ _ _, .slice _ _ _]) rfl) ?_
 refine qA (qN (v := .int .i64 _) rfl) ?_
 refine qA (qN (v := .int .i64 _) rfl) ?_
 refine zF (cs := [_, _]) rfl rfl fun b9 hb9 => ?_
 refine qL [_, _, _, _, _, _] rfl ?_
 refine wI 5 (v := .agg #[.slice _ _ _, .slice _ _ _]) (vs := [_, _]) (c' := [_, _]) rfl rfl rfl rfl rfl rfl rfl rfl rfl ?_
 refine qL [_, _, _, _, _, _] rfl ?_
 refine qA (qD (v := .int .i64 _) rfl) ?_
 refine qA (qD (v := .int .i64 _) rfl) ?_
 refine qE ?_
 refine xp_dw [] rfl rfl rfl ?_
 refine qI (i := 0) rfl (by decide +kernel) (qC (v := .int .i64 _) rfl) ?_
 refine qI (i := 1) rfl (by decide +kernel) (qN (v := .bool _) rfl) ?_
 refine qI (i := 2) rfl (by decide +kernel) (qC (v := .bool _) rfl) ?_
 refine zC (i := 3) rfl (by decide +kernel) rfl rfl (qC (v := .int .i64 _) rfl) ?_
 refine zC (i := 4) rfl (by decide +kernel) rfl rfl (qN (v := .bool _) rfl) ?_
 refine qI (i := 5) rfl (by decide +kernel) (wP rfl rfl (v := .bool _) rfl) ?_
 refine qI (i := 6) rfl (by decide +kernel) (qC (v := .bool _) rfl) ?_
 refine zC (i := 7) rfl (by decide +kernel) rfl rfl (qC (v := .int .i64 _) rfl) ?_
 refine zC (i := 8) rfl (by decide +kernel) rfl rfl (qN (v := .bool _) rfl) ?_
 refine qI (i := 9) rfl (by decide +kernel) (wP rfl rfl (v := .bool _) rfl) ?_
 refine qI (i := 10) rfl (by decide +kernel) (qC (v := .bool _) rfl) ?_
 refine zC (i := 11) rfl (by decide +kernel) rfl rfl (qC (v := .int .i64 _) rfl) ?_
 refine zC (i := 12) rfl (by decide +kernel) rfl rfl (qN (v := .bool _) rfl) ?_
 refine qI (i := 13) rfl (by decide +kernel) (wP rfl rfl (v := .bool _) rfl) ?_
 refine qI (i := 14) rfl (by decide +kernel) (qC (v := .bool _) rfl) ?_
 refine zC (i := 15) rfl (by decide +kernel) rfl rfl (qC (v := .int .i64 _) rfl) ?_
 refine zC (i := 16) rfl (by decide +kernel) rfl rfl (qN (v := .bool _) rfl) ?_
 refine qI (i := 17) rfl (by decide +kernel) (wP rfl rfl (v := .bool _) rfl) ?_
 refine qI (i := 18) rfl (by decide +kernel) (qC (v := .bool _) rfl) ?_
 refine zC (i := 19) rfl (by decide +kernel) rfl rfl (qC (v := .int .i64 _) rfl) ?_
 refine zC (i := 20) rfl (by decide +kernel) rfl rfl (qN (v := .bool _) rfl) ?_
 refine qI (i := 21) rfl (by decide +kernel) (wP rfl rfl (v := .bool _) rfl) ?_
 refine qI (i := 22) rfl (by decide +kernel) (qC (v := .bool _) rfl) ?_
 refine zC (i := 23) rfl (by decide +kernel) rfl rfl (qC (v := .int .i64 _) rfl) ?_
 refine zC (i := 24) rfl (by decide +kernel) rfl rfl (qN (v := .bool _) rfl) ?_
 refine qI (i := 25) rfl (by decide +kernel) (wP rfl rfl (v := .bool _) rfl) ?_
 refine qI (i := 26) rfl (by decide +kernel) (qC (v := .bool _) rfl) ?_
 refine zC (i := 27) rfl (by decide +kernel) rfl rfl (qC (v := .slice _ _ _) rfl) ?_
 refine dw_lastH (i := 28) rfl (by decide +kernel) (by decide +kernel) rfl rfl ?_
 refine wA (zc := [_]) (vs := [(0, .int .i64 _), (1, .int .i64 _), (2, .int .i64 _), (3, .int .i64 _)]) (cs := [_, _, _, _]) rfl rfl rfl rfl rfl rfl rfl fun b75 hb75 => ?_
 refine wY [_, _, _, _, _, _, _] rfl ?_
 refine dw_pub 6 rfl ?_
 intro g1 F1 q1
 refine wY [_, _, _, _, _, _, _] rfl ?_
 refine dw_lastH (i := 29) rfl (by decide +kernel) (by decide +kernel) rfl rfl ?_
 refine wJ (caps := []) (vs := [.slice _ _ _, .slice _ _ _]) rfl rfl rfl (sameInts_ok [4, 3, 1, 0] [4, 3, 1, 0] _ _ _ _ g1 (S4.ext (zT (zT (zT (zT (zT (zT (zT (zT (zT (zT (zT (zT (zT (zT (zT E5 E6) E7) E8) E9) E10) E11) E12) E13) E14) E15) E16) E17) E18) E19) F1)) (row_of_block (enc := intC) (m := 1) (l := [4, 3, 1, 0]) (fun _ _ => rfl) q1) (by decide)) ?_
 rintro _ g2 F2 rfl
 refine qI (i := 30) rfl (by decide +kernel) (wP rfl rfl (v := .bool _) rfl) ?_
 refine qI (i := 31) rfl (by decide +kernel) (qC (v := .bool _) rfl) ?_
 refine zC (i := 32) rfl (by decide +kernel) rfl rfl (qC (v := .slice _ _ _) rfl) ?_
 refine dw_lastH (i := 33) rfl (by decide +kernel) (by decide +kernel) rfl rfl ?_
 refine wA (zc := [_]) (vs := [(0, .int .i64 _), (1, .int .i64 _), (2, .int .i64 _)]) (cs := [_, _, _]) rfl rfl rfl rfl rfl rfl rfl fun b80 hb80 => ?_
 refine wY [_, _, _, _, _, _, _, _] rfl ?_
 refine dw_lastH (i := 34) rfl (by decide +kernel) (by decide +kernel) rfl rfl ?_
 refine wA (zc := [_]) (vs := [(0, .int .i64 _)]) (cs := [_]) rfl rfl rfl rfl rfl rfl rfl fun b81 hb81 => ?_
 refine wY [_, _, _, _, _, _, _, _, _] rfl ?_
 refine dw_lastH (i := 35) rfl (by decide +kernel) (by decide +kernel) rfl rfl ?_
 refine wA (zc := [_]) (vs := [(0, .slice _ _ _), (1, .slice _ _ _)]) (cs := [_, _]) rfl rfl rfl rfl rfl rfl rfl fun b82 hb82 => ?_
 refine wY [_, _, _, _, _, _, _, _, _, _] rfl ?_
 refine dw_pub 7 rfl ?_
 intro g3 F3 q3
 refine wY [_, _, _, _, _, _, _, _, _, _] rfl ?_
 refine dw_pub 8 rfl ?_
 intro g4 F4 q4
 refine wY [_, _, _, _, _, _, _, _, _, _] rfl ?_
 refine dw_pub 9 rfl ?_
 intro g5 F5 q5
 refine wY [_, _, _, _, _, _, _, _, _, _] rfl ?_
 have RL : Row g5 1 id (some ⟨b82, 0, none⟩) [[.slice (some ⟨b80, 0, none⟩) 3 3], [.slice (some ⟨b81, 0, none⟩) 1 1]] := row_of_block (enc := id) (m := 1) (l := [[.slice (some ⟨b80, 0, none⟩) 3 3], [.slice (some ⟨b81, 0, none⟩) 1 1]]) (fun x hx => by simp at hx; rcases hx with rfl | rfl <;> rfl) q5
 have EL : Els g5 TL [[0, 1, 2], [1]] [[.slice (some ⟨b80, 0, none⟩) 3 3], [.slice (some ⟨b81, 0, none⟩) 1 1]] := by
  refine ⟨rfl, fun i x c h1 h2 => ?_⟩
  match i, h1, h2 with
  | 0, h1, h2 => cases h1; cases h2; exact ⟨_, rfl, some ⟨b80, 0, none⟩, 3, rfl, (row_of_block (enc := intC) (m := 1) (l := [0, 1, 2]) (fun _ _ => rfl) q3).ext (zT F4 F5)⟩
  | 1, h1, h2 => cases h1; cases h2; exact ⟨_, rfl, some ⟨b81, 0, none⟩, 1, rfl, (row_of_block (enc := intC) (m := 1) (l := [1]) (fun _ _ => rfl) q4).ext F5⟩
  | i + 2, h1, h2 => simp at h1
 refine dw_lastH (i := 36) rfl (by decide +kernel) (by decide +kernel) rfl rfl ?_
 refine wJ (caps := []) (vs := [.slice _ _ _, .slice _ _ _]) rfl rfl rfl (sameLists_ok [[0, 1, 2], [1]] [[0, 1, 2], [1]] _ _ _ _ cs11 _ g5 (R11.ext (zT (zT (zT (zT (zT (zT (zT (zT (zT (zT (zT (zT E12 E13) E14) E15) E16) E17) E18) E19) F1) F2) F3) F4) F5)) (L11.ext TL.mono (zT (zT (zT (zT (zT (zT (zT (zT (zT (zT (zT (zT E12 E13) E14) E15) E16) E17) E18) E19) F1) F2) F3) F4) F5)) RL EL (by decide) (by decide)) ?_
 rintro _ g6 F6 rfl
 refine qI (i := 37) rfl (by decide +kernel) (wP rfl rfl (v := .bool _) rfl) ?_
 refine qI (i := 38) rfl (by decide +kernel) (qC (v := .bool _) rfl) ?_
 refine zC (i := 39) rfl (by decide +kernel) rfl rfl (qC (v := .slice _ _ _) rfl) ?_
 refine dw_lastH (i := 40) rfl (by decide +kernel) (by decide +kernel) rfl rfl ?_
 refine wA (zc := [_]) (vs := [(0, .int .i64 _), (1, .int .i64 _)]) (cs := [_, _]) rfl rfl rfl rfl rfl rfl rfl fun b87 hb87 => ?_
 refine wY [_, _, _, _, _, _, _, _, _, _, _] rfl ?_
 refine dw_pub 10 rfl ?_
 intro g7 F7 q7
 refine wY [_, _, _, _, _, _, _, _, _, _, _] rfl ?_
 refine dw_lastH (i := 41) rfl (by decide +kernel) (by decide +kernel) rfl rfl ?_
 refine wJ (caps := []) (vs := [.slice _ _ _, .slice _ _ _]) rfl rfl rfl (sameInts_ok [1, 9] [1, 9] _ _ _ _ g7 (S15.ext (zT (zT (zT (zT (zT (zT (zT (zT (zT (zT E16 E17) E18) E19) F1) F2) F3) F4) F5) F6) F7)) (row_of_block (enc := intC) (m := 1) (l := [1, 9]) (fun _ _ => rfl) q7) (by decide)) ?_
 rintro _ g8 F8 rfl
 refine qI (i := 42) rfl (by decide +kernel) (wP rfl rfl (v := .bool _) rfl) ?_
 refine qI (i := 43) rfl (by decide +kernel) (qC (v := .bool _) rfl) ?_
 refine dw_loadG (i := 44) rfl (by decide +kernel) rfl rfl ?_
 refine qY 5 (vs := [.slice _ _ _, .slice _ _ _]) rfl rfl rfl rfl rfl ?_
 refine dw_effH (i := 45) rfl (by decide +kernel) rfl rfl ?_
 refine wA (zc := [_]) (vs := [(0, .int .i64 _)]) (cs := [_]) rfl rfl rfl rfl rfl rfl rfl fun b92 hb92 => ?_
 refine ⟨ext_new hb92 _, ?_⟩
 refine wY [_, _, _, _, _, _, _, _, _, _, _, _] rfl ?_
 refine dw_pub 11 rfl ?_
 intro g9 F9 q9
 refine wY [_, _, _, _, _, _, _, _, _, _, _, _] rfl ?_
 refine dw_effH (i := 46) rfl (by decide +kernel) rfl rfl ?_
 refine wJ (caps := []) (vs := [.slice _ _ _]) rfl rfl rfl (pressed_ok [1] _ _ g9) ?_
 rintro _ g10 F10 rfl
 refine ⟨ext_wlm F10 _, ?_⟩
 refine dw_lastH (i := 47) rfl (by decide +kernel) (by decide +kernel) rfl rfl ?_
 refine wJ (caps := []) (vs := [.agg _, .agg _]) rfl rfl rfl (sameHands_ok ⟨[1], []⟩ ⟨[1], []⟩ _ _ _ _ _ _ _ _ g10 (RH.ext (zT (zT (zT (zT (zT (zT (zT (zT (zT F1 F2) F3) F4) F5) F6) F7) F8) F9) F10)) ⟨(row_of_block (enc := intC) (m := 1) (l := [1]) (fun _ _ => rfl) q9).ext F10, row_nil _ _⟩ (by decide) (by decide)) ?_
 rintro _ g11 F11 rfl
 refine qI (i := 48) rfl (by decide +kernel) (wP rfl rfl (v := .bool _) rfl) ?_
 refine qI (i := 49) rfl (by decide +kernel) (qD (v := .bool _) rfl) ?_
 refine zN rfl ?_
 refine qZ ?_
 refine qP (vs := [_]) Tryz.results6 ⟨qM rfl rfl, trivial⟩ fun V => ?_
 exact ⟨(zT (zT (zT (zT (zT (zT (zT (zT (zT (zT (zT (zT (zT (zT (zT (zT (zT (zT (zT (zT (zT (zT (zT (zT (zT (zT (zT (zT (zT (zT E1 E2) E3) E4) E5) E6) E7) E8) E9) E10) E11) E12) E13) E14) E15) E16) E17) E18) E19) F1) F2) F3) F4) F5) F6) F7) F8) F9) F10) F11) (qX V)), rfl⟩
end
end Go.Proofs.YthphpbdmbmiaiaaGreat
namespace Go.HL
open Go
variable [Lvl]
section
variable {P : Program} {n : Nat} {d : Option Tmp} {ty : TypeId} {ps : String} {af : Array Edge} {S : Sl} {t u : TypeId} {x y : Operand}
theorem pv_remT {a b : Int} (hx : ev n S x = .int .i64 a) (hy : ev n S y = .int .i64 b) (hb : b ≠ 0) :
  pev P (execOp (ev n S) ⟨d, .binOp .rem t x y u, ty, ps, af, none⟩) = some (.value (.int .i64 (a.tmod b))) := by
 simp only [execOp, hx, hy, binOp, Op.intDiv, if_neg hb]
 rfl
theorem pv_quoT {a b c : Int} (hx : ev n S x = .int .i64 a) (hy : ev n S y = .int .i64 b) (hb : b ≠ 0) (hc : a.tdiv b = c) (h : -2 ^ 63 ≤ c ∧ c < 2 ^ 63) :
  pev P (execOp (ev n S) ⟨d, .binOp .quo t x y u, ty, ps, af, none⟩) = some (.value (.int .i64 c)) := by
 subst hc
 have e : IntKind.wrap .i64 (a.tdiv b) = a.tdiv b := IntWalk.i64_in _ ⟨by omega, by omega⟩
 simp only [execOp, hx, hy, binOp, Op.intDiv, if_neg hb, e]
 rfl
end
end Go.HL
namespace Go.Rd
open Go Go.HL Go.Wx
variable [Lvl]
def renL (s : Int → Int) (l : LinkP) : LinkP := ⟨s l.frm, s l.to, l.reg, l.lag⟩
structure RenR (s : Int → Int) (m m' : MachP) : Prop where
 rods : m'.rods = m.rods
 bd : ∀ r, 0 ≤ r → r < m.rods → 0 ≤ s r ∧ s r < m.rods
 btn : m'.buttons = m.buttons.map s
 links : m'.links = m.links.map (renL s)
structure Inv (s t : Int → Int) (n : Int) : Prop where
 sb : ∀ r, 0 ≤ r → r < n → 0 ≤ s r ∧ s r < n
 tb : ∀ r, 0 ≤ r → r < n → 0 ≤ t r ∧ t r < n
 ts : ∀ r, 0 ≤ r → r < n → t (s r) = r
 st : ∀ r, 0 ≤ r → r < n → s (t r) = r
end Go.Rd
namespace Go.Rd
open Go Go.HL Go.Wx
variable [Lvl]
end Go.Rd
namespace Go.Rd
open Go Go.HL Go.Wx
variable [Lvl]
end Go.Rd
namespace Go.Proofs.YthphpbdmbmiaiaaGreat
open Go Go.HL Go.Proofs Go.Wx Go.Rd
section
variable [Lvl]
set_option maxRecDepth 100000
theorem tmod_gt (x : Int) {n : Int} (hn : 0 < n) : -n < x.tmod n := by
 by_cases h : 0 ≤ x
 ·have := Int.tmod_nonneg n h; omega
 ·obtain ⟨y, rfl⟩ : ∃ y, x = -y := ⟨-x, by omega⟩
  rw [Int.neg_tmod]
  have := Int.tmod_lt_of_pos y hn
  omega
def turnI (x n : Int) : Int := if n < 2 then 0 else (x.tmod n + n).tmod n
theorem turnI_bd (x n : Int) : 0 ≤ turnI x n ∧ (1 ≤ n → turnI x n < n) := by
 unfold turnI
 split
 ·omega
 ·rename_i h
  have h1 : -n < x.tmod n := tmod_gt x (by omega)
  have h2 : 0 ≤ x.tmod n + n := by omega
  exact ⟨Int.tmod_nonneg n h2, fun _ => Int.tmod_lt_of_pos _ (by omega)⟩
theorem turnI_ne {f d n : Int} (hn : 2 ≤ n) (h0 : 0 ≤ f ∧ f < n) (hd : 1 ≤ d ∧ d < n) : turnI (f + d) n ≠ f := by
 unfold turnI
 rw [if_neg (by omega)]
 rw [Int.tmod_eq_emod_of_nonneg (by omega : 0 ≤ f + d), Int.tmod_eq_emod_of_nonneg (by have := Int.emod_nonneg (f + d) (by omega : n ≠ 0); omega)]
 rw [Int.add_emod_right, Int.emod_emod]
 intro e
 by_cases h : f + d < n
 ·rw [Int.emod_eq_of_lt (by omega) h] at e; omega
 ·have : (f + d) % n = f + d - n := by
   rw [← Int.sub_emod_right (f + d) n, Int.emod_eq_of_lt (by omega) (by omega)]
  omega
theorem Turn_ok (x n : Int) (hn : n ≤ 2 ^ 40) (h : AH) : FnT Tryz.prog 12 #[.int .i64 x, .int .i64 n] h (fun v _ => v = .int .i64 (turnI x n)) := by
 refine wM Tryz.func12 rfl Tryz.ntmps12 rfl ?_
 refine qE ?_
 refine qB rfl ?_
 refine qA (qD (v := .int .i64 _) rfl) ?_
 refine qE ?_
 refine qE ?_
 refine qB rfl ?_
 refine qA (qC (v := .int .i64 _) rfl) ?_
 refine qA (qN (v := .bool _) rfl) ?_
 refine qU rfl (fun ht => ?_) (fun ht => ?_)
 ·skip
  have ht' : n < 2 := of_decide_eq_true ht
  refine qE ?_
  refine qB rfl ?_
  refine qA (qD (v := .int .i64 _) rfl) ?_
  refine qZ ?_
  refine qP (vs := [_]) Tryz.results12 ⟨qM rfl rfl, trivial⟩ fun V => ?_
  exact ⟨(qX V), intE (by rw [turnI, if_pos ht'])⟩
 ·skip
  have ht' : ¬ n < 2 := of_decide_eq_false ht
  have h1 : -n < x.tmod n := tmod_gt x (by omega)
  have h2 : x.tmod n < n := Int.tmod_lt_of_pos _ (by omega)
  refine qR ?_
  refine qE ?_
  refine qB rfl ?_
  refine qA (qC (v := .int .i64 _) rfl) ?_
  refine qA (qC (v := .int .i64 _) rfl) ?_
  refine qA (pv_remT rfl rfl (by omega)) ?_
  refine qA (qC (v := .int .i64 _) rfl) ?_
  refine qA (qS rfl (by omega)) ?_
  refine qA (qC (v := .int .i64 _) rfl) ?_
  refine qA (pv_remT rfl rfl (by omega)) ?_
  refine qA (qD (v := .int .i64 _) rfl) ?_
  refine qZ ?_
  refine qP (vs := [_]) Tryz.results12 ⟨qM rfl rfl, trivial⟩ fun V => ?_
  exact ⟨(qX V), intE (by rw [turnI, if_neg ht'])⟩
structure Made (size pins links : Int) (m : MachP) : Prop where
 ok : MOK m
 rs : m.rods ≤ size
 ls : m.levers ≤ size
 bl : m.buttons.length ≤ 3
 pl : (m.pins.length : Int) ≤ pins
 ll : (m.links.length : Int) ≤ links
theorem mem_one {α : Type} {P : α → Prop} {l : List α} {z : α} (h : ∀ x ∈ l, P x) (hz : P z) : ∀ x ∈ l ++ [z], P x := fun x hx => by
 rcases List.mem_append.1 hx with hx | hx
 ·exact h x hx
 ·simp at hx; subst hx; exact hz
def CapM (v : Value) : Prop := ∀ AB AQ AL AW cB cQ cL cW m, v = machV AB AQ AL AW cB cQ cL cW m → m.pins.length ≤ cQ ∧ m.links.length ≤ cL
theorem capM_of {z1 z2 z3 z4 z5 zB zW : Value} {A A' : Option Addr} {n n' c c' : Nat} (h : n ≤ c) (h' : n' ≤ c') : CapM (.agg #[z1, z2, z3, z4, z5, zB, .slice A n c, .slice A' n' c', zW]) := by
 intro AB AQ AL AW cB cQ cL cW m e
 simp only [machV, Value.agg.injEq, Array.mk.injEq, List.cons.injEq, Value.slice.injEq] at e
 obtain ⟨_, _, _, _, _, _, ⟨_, e1, e2⟩, ⟨_, e3, e4⟩, _⟩ := e
 omega
set_option maxHeartbeats 8000000 in
theorem MachineOf_okC (b x : Nat) (size pins links : Int) (hs : 1 ≤ size ∧ size ≤ 6) (hp : 0 ≤ pins ∧ pins ≤ 8) (hl : 0 ≤ links ∧ links ≤ 4) (h : AH) :
  FnM Tryz.prog (.func (.func 8) #[] ([] : List Value).toArray) [.pointer (some ⟨b, 0, none⟩), .int .i64 size, .int .i64 pins, .int .i64 links] h [some (b, .cells #[.int .u64 (x : Int)] 67 (0, 0))]
  (fun v h' M' => ∃ (x' : Nat) (m : MachP), M' = [some (b, .cells #[.int .u64 (x' : Int)] 67 (0, 0))] ∧ MachV h' m v ∧ Made size pins links m ∧ CapM v) := by
 refine fnM_body rfl rfl Tryz.func8 rfl Tryz.ntmps8 rfl ?_
 refine qE ?_
 refine qB rfl ?_
 refine zF (cs := [_, _, _, _, _, _, _, _, _]) rfl rfl fun b8 hb8 => ?_
 refine qL [_, _] rfl ?_
 refine qE ?_
 refine qB rfl ?_
 refine qA (qC (v := .pointer (some ⟨b, 0, none⟩)) rfl) ?_
 refine qA (qC (v := .int .i64 _) rfl) ?_
 refine qA (pv_min rfl rfl) ?_
 refine op_fnMM [] [_] [_] (vs := [.pointer _, .int .i64 _, .int .i64 _]) rfl rfl rfl ((Within_ok b x 1 (min size 6) (by omega) (by omega) (by omega) h)) ?_
 rintro _ h1 _ E1 ⟨x1, r, rfl, rfl, r1, r2⟩
 refine qL [_, _] rfl ?_
 refine qA (qC (v := .pointer (some ⟨b, 0, none⟩)) rfl) ?_
 refine qA (qC (v := .int .i64 _) rfl) ?_
 refine qA (pv_min rfl rfl) ?_
 refine op_fnMM [] [_] [_] (vs := [.pointer _, .int .i64 _, .int .i64 _]) rfl rfl rfl ((Within_ok b x1 1 (min size 6) (by omega) (by omega) (by omega) h1)) ?_
 rintro _ h2 _ E2 ⟨x2, v, rfl, rfl, v1, v2⟩
 refine qL [_, _] rfl ?_
 refine qA (qC (v := .pointer (some ⟨b, 0, none⟩)) rfl) ?_
 refine op_fnMM [] [_] [_] (vs := [.pointer _, .int .i64 _]) rfl rfl rfl ((Upto_ok b x2 2 (by omega) h2)) ?_
 rintro _ h3 _ E3 ⟨x3, g, rfl, rfl, g1, g2⟩
 refine qL [_, _] rfl ?_
 refine qA (qC (v := .pointer (some ⟨b, 0, none⟩)) rfl) ?_
 refine op_fnMM [] [_] [_] (vs := [.pointer _, .int .i64 _, .int .i64 _]) rfl rfl rfl ((Within_ok b x3 2 12 (by omega) (by omega) (by omega) h3)) ?_
 rintro _ h4 _ E4 ⟨x4, t, rfl, rfl, t1, t2⟩
 refine qL [_, _] rfl ?_
 refine qA (pv_build (zc := [_, _, _, _, _, _, _, _, _]) (vs := [(0, .int .i64 _), (1, .int .i64 _), (2, .int .i64 _), (3, .int .i64 _)]) (cs := [_, _, _, _, _, _, _, _, _]) rfl rfl rfl rfl rfl rfl) ?_
 refine zF (cs := [_, _, _, _, _, _, _, _, _]) rfl rfl fun b9 hb9 => ?_
 refine qL [_, _, _] rfl ?_
 refine wI 2 (v := .agg #[.int .i64 _, .int .i64 _, .int .i64 _, .int .i64 _, .int .i64 _, .slice _ _ _, .slice _ _ _, .slice _ _ _, .slice _ _ _]) (vs := [_, _, _, _, _, _, _, _, _]) (c' := [_, _, _, _, _, _, _, _, _]) rfl rfl rfl rfl rfl rfl rfl rfl rfl ?_
 refine qL [_, _, _] rfl ?_
 refine qE ?_
 refine qB rfl ?_
 refine qA (qC (v := .pointer (some ⟨b, 0, none⟩)) rfl) ?_
 refine qA (qF rfl rfl rfl rfl 3 rfl) ?_
 refine qJ 2 (v := .int .i64 _) rfl rfl rfl rfl ?_
 refine qA (pv_quoT (c := t / 3) rfl rfl (by omega) (Int.tdiv_eq_ediv_of_nonneg (by omega)) (by omega)) ?_
 refine qA (pv_max rfl rfl) ?_
 refine op_fnMM [] [_] [_, _] (vs := [.pointer _, .int .i64 _, .int .i64 _]) rfl rfl rfl ((Within_ok b x4 1 (max 1 (t / 3)) (by omega) (by omega) (by omega) h4)) ?_
 rintro _ h5 _ E5 ⟨x5, o, rfl, rfl, o1, o2⟩
 refine qL [_, _, _] rfl ?_
 refine qA (qF rfl rfl rfl rfl 4 rfl) ?_
 refine wI 2 (v := .int .i64 _) (vs := [_]) (c' := [_, _, _, _, _, _, _, _, _]) rfl rfl rfl rfl rfl rfl rfl rfl rfl ?_
 refine qL [_, _, _] rfl ?_
 refine goes_more ?_
 refine qT [_, _, _, _] rfl ?_
 refine goes_more ?_
 refine qT [_, _, _, _, _] rfl ?_
 refine goes_more ?_
 refine qT [_, _, _, _, _, _] rfl ?_
 refine goes_more ?_
 refine qT [_, _, _, _, _, _, _] rfl ?_
 refine qE ?_
 refine qE ?_
 refine qB rfl ?_
 refine qA (qC (v := .pointer (some ⟨b, 0, none⟩)) rfl) ?_
 refine op_fnMM [] [_] [_, _, _, _, _, _] (vs := [.pointer _, .int .i64 _]) rfl rfl rfl ((Upto_ok b x5 3 (by omega) h5)) ?_
 rintro _ h6 _ E6 ⟨x6, i0, rfl, rfl, i01, i02⟩
 refine qL [_, _, _, _, _, _, _] rfl ?_
 refine qA (qD (v := .int .i64 _) rfl) ?_
 refine qQ ?_
 refine zH [10, 37, 38, 39, 40, 41, 42, 43, 44, 45, 46, 47, 48, 49, 50] 7 (α := Int × Nat × List Int × Acc) (fun ⟨i, y, bs, a⟩ => [(10, .int .i64 i)]) (fun ⟨i, y, bs, a⟩ L => ((L.set 0 (some (b, .cells #[.int .u64 (y : Int)] 67 (0, 0)))).set 2 (some (b9, .cells #[.int .i64 r, .int .i64 v, .int .i64 g, .int .i64 t, .int .i64 o, .slice a.A a.n a.c, .slice none 0 0, .slice none 0 0, .slice none 0 0] 26 (0, 0)))).set 3 (a.p)) (fun ⟨i, y, bs, a⟩ h_i => (0 ≤ i ∧ i + bs.length ≤ 3) ∧ (∀ z ∈ bs, 0 ≤ z ∧ z < r) ∧ AccR 3 1 (bs.flatMap intC) a) (fun ⟨i, y, bs, a⟩ => i.toNat) ((i0, x6, [], acc0)) ⟨rfl, trivial⟩ (rfl) (⟨⟨by omega, by simp; omega⟩, fun _ hz => absurd hz List.not_mem_nil, accR0⟩) ?_
 rintro ⟨i, y, bs, a⟩ T1 h_i E_i J_i
 refine qT [_, _, _, _, _, _, _] rfl ?_
 obtain ⟨⟨K1, K2⟩, K3, KA⟩ := J_i
 refine qE ?_
 refine qE ?_
 refine qB rfl ?_
 refine qA (qC (v := .int .i64 _) rfl) ?_
 refine qA (qN (v := .bool _) rfl) ?_
 refine qU rfl (fun ht => ?_) (fun ht => ?_)
 ·skip
  have hi : 0 < i := of_decide_eq_true ht
  refine qR ?_
  refine qE ?_
  refine qQ ?_
  refine xp_dw [true, false, false, false, false, false, false] rfl rfl rfl ?_
  refine qI (i := 0) rfl (by decide +kernel) (qF rfl rfl rfl rfl 5 rfl) ?_
  refine wH (i := 1) rfl (by decide +kernel) ?_
  refine qJ 2 (v := .slice _ _ _) rfl rfl rfl rfl ?_
  refine qI (i := 2) rfl (by decide +kernel) (qC (v := .pointer (some ⟨b, 0, none⟩)) rfl) ?_
  refine qI (i := 3) rfl (by decide +kernel) (qF rfl rfl rfl rfl 0 rfl) ?_
  refine wH (i := 4) rfl (by decide +kernel) ?_
  refine qJ 2 (v := .int .i64 _) rfl rfl rfl rfl ?_
  refine qI (i := 5) rfl (by decide +kernel) (qS rfl (by omega)) ?_
  refine dw_eff (i := 6) rfl (by decide +kernel) ?_
  refine op_fnMM [] [_] [_, _, _, _, _, _] (vs := [.pointer _, .int .i64 _]) rfl rfl rfl ((Upto_ok b y (r - 1) (by omega) h_i)) ?_
  rintro _ h7 _ E7 ⟨y2, z, rfl, rfl, z1, z2⟩
  refine ⟨ext_wlm E7 _, ?_⟩
  refine wY [_, _, _, _, _, _, _] rfl ?_
  refine dw_eff (i := 7) rfl (by decide +kernel) ?_
  refine wA (zc := [_]) (vs := [(0, .int .i64 _)]) (cs := [_]) rfl rfl rfl rfl rfl rfl rfl fun b48 hb48 => ?_
  refine ⟨ext_newM hb48 _, ?_⟩
  refine wY [_, _, _, _, _, _, _, _] rfl ?_
  refine zA (i := 8) rfl (by decide +kernel) (by decide +kernel) ?_
  refine wZ 3 KA rfl rfl rfl (fun V => rdP V (i := 7) rfl) rfl rfl rfl rfl rfl rfl rfl rfl rfl (by omega) rfl (by rw [wN (m := 1) (fun _ _ => rfl)]; simp; omega) fun a2 h2a E2a ha2 => ?_
  refine wY [_, _, _, _, _, _, _, _] rfl ?_
  refine qI (i := 9) rfl (by decide +kernel) (qF rfl rfl rfl rfl 5 rfl) ?_
  refine zA (i := 10) rfl (by decide +kernel) (by decide +kernel) ?_
  refine wI 2 (v := .slice _ _ _) (vs := [_]) (c' := [_, _, _, _, _, _, _, _, _]) rfl rfl rfl rfl rfl rfl rfl rfl rfl ?_
  refine wY [_, _, _, _, _, _, _, _] rfl ?_
  refine zN rfl ?_
  refine qB rfl ?_
  refine qA (qC (v := .int .i64 _) rfl) ?_
  refine qA (qS rfl (by omega)) ?_
  refine qA (qD (v := .int .i64 _) rfl) ?_
  refine ⟨(i - 1, y2, bs ++ [z], a2), ⟨rfl, trivial⟩, rfl, rfl, (zT (zT E_i E7) E2a), fun h3 E3 => ⟨⟨by omega, by simp; omega⟩, mem_one K3 ⟨z1, by omega⟩, by rw [List.flatMap_append]; exact ha2⟩, by first | omega | (dsimp only; omega), ?_⟩
  repeat (first | exact qW _ _ _ | refine wD (by decide) ?_ | refine qV rfl ?_ | refine wE rfl ?_)
 ·skip
  have hi0 : i = 0 := by have := of_decide_eq_false ht; omega
  obtain ⟨pB, AB, nB, cB⟩ := a
  obtain rfl : nB = bs.length := by have := AccR.len KA; rw [wN (m := 1) (fun _ _ => rfl)] at this; dsimp only at this; omega
  dsimp only at *
  refine goes_pubO 3 rfl ?_
  intro gB GB PB
  refine qT [_, _, _, _, _, _, _] rfl ?_
  have RB : Row gB 1 intC AB bs := ⟨fun _ _ => rfl, AccR.rd KA PB⟩
  refine wV ?_
  refine qE ?_
  refine qE ?_
  refine qB rfl ?_
  refine qA (qC (v := .pointer (some ⟨b, 0, none⟩)) rfl) ?_
  refine qA (qC (v := .int .i64 _) rfl) ?_
  refine op_fnMM [] [_] [_, _, _, _, _, _] (vs := [.pointer _, .int .i64 _]) rfl rfl rfl ((Upto_ok b y pins (by omega) gB)) ?_
  rintro _ h8 _ E8 ⟨x8, j0, rfl, rfl, j01, j02⟩
  refine qL [_, _, _, _, _, _, _] rfl ?_
  refine qA (qD (v := .int .i64 _) rfl) ?_
  refine qQ ?_
  refine zH [11, 54, 55, 56, 57, 58, 59, 60, 61, 62, 63, 64, 65, 66, 67, 68, 69, 70, 71, 72, 73, 74, 75, 76, 77, 78] 7 (α := Int × Nat × List PinP × Acc) (fun ⟨j, y, qs, a⟩ => [(11, .int .i64 j)]) (fun ⟨j, y, qs, a⟩ L => ((L.set 0 (some (b, .cells #[.int .u64 (y : Int)] 67 (0, 0)))).set 2 (some (b9, .cells #[.int .i64 r, .int .i64 v, .int .i64 g, .int .i64 t, .int .i64 o, .slice AB bs.length cB, .slice a.A a.n a.c, .slice none 0 0, .slice none 0 0] 26 (0, 0)))).set 4 (a.p)) (fun ⟨j, y, qs, a⟩ h_j => (0 ≤ j ∧ j + qs.length ≤ pins) ∧ (∀ p ∈ qs, (0 ≤ p.rod ∧ p.rod < r) ∧ (0 ≤ p.lever ∧ p.lever < v) ∧ (0 ≤ p.lag ∧ p.lag ≤ t)) ∧ AccR 71 3 (qs.flatMap pinC) a) (fun ⟨j, y, qs, a⟩ => j.toNat) ((j0, x8, [], acc0)) ⟨rfl, trivial⟩ (rfl) (⟨⟨by omega, by simp; omega⟩, fun _ hz => absurd hz List.not_mem_nil, accR0⟩) ?_
  rintro ⟨j, y, qs, a⟩ T3 h_j E_j J_j
  refine qT [_, _, _, _, _, _, _] rfl ?_
  obtain ⟨⟨L1, L2⟩, L3, KA⟩ := J_j
  refine qE ?_
  refine qE ?_
  refine qB rfl ?_
  refine qA (qC (v := .int .i64 _) rfl) ?_
  refine qA (qN (v := .bool _) rfl) ?_
  refine qU rfl (fun hu => ?_) (fun hu => ?_)
  ·skip
   have hj : 0 < j := of_decide_eq_true hu
   refine qR ?_
   refine qE ?_
   refine qQ ?_
   refine xp_dw [true, false, false, false, false, false, false] rfl rfl rfl ?_
   refine qI (i := 0) rfl (by decide +kernel) (qF rfl rfl rfl rfl 6 rfl) ?_
   refine wH (i := 1) rfl (by decide +kernel) ?_
   refine qJ 2 (v := .slice _ _ _) rfl rfl rfl rfl ?_
   refine qI (i := 2) rfl (by decide +kernel) (qC (v := .pointer (some ⟨b, 0, none⟩)) rfl) ?_
   refine qI (i := 3) rfl (by decide +kernel) (qF rfl rfl rfl rfl 0 rfl) ?_
   refine wH (i := 4) rfl (by decide +kernel) ?_
   refine qJ 2 (v := .int .i64 _) rfl rfl rfl rfl ?_
   refine qI (i := 5) rfl (by decide +kernel) (qS rfl (by omega)) ?_
   refine qI (i := 7) rfl (by decide +kernel) (qC (v := .pointer (some ⟨b, 0, none⟩)) rfl) ?_
   refine qI (i := 8) rfl (by decide +kernel) (qF rfl rfl rfl rfl 1 rfl) ?_
   refine wH (i := 9) rfl (by decide +kernel) ?_
   refine qJ 2 (v := .int .i64 _) rfl rfl rfl rfl ?_
   refine qI (i := 10) rfl (by decide +kernel) (qS rfl (by omega)) ?_
   refine qI (i := 12) rfl (by decide +kernel) (qC (v := .pointer (some ⟨b, 0, none⟩)) rfl) ?_
   refine qI (i := 13) rfl (by decide +kernel) (qF rfl rfl rfl rfl 3 rfl) ?_
   refine wH (i := 14) rfl (by decide +kernel) ?_
   refine qJ 2 (v := .int .i64 _) rfl rfl rfl rfl ?_
   refine qI (i := 15) rfl (by decide +kernel) (pv_quoT (c := t / 2) rfl rfl (by omega) (Int.tdiv_eq_ediv_of_nonneg (by omega)) (by omega)) ?_
   refine dw_eff (i := 6) rfl (by decide +kernel) ?_
   refine op_fnMM [] [_] [_, _, _, _, _, _] (vs := [.pointer _, .int .i64 _]) rfl rfl rfl ((Upto_ok b y (r - 1) (by omega) h_j)) ?_
   rintro _ h9 _ E9 ⟨y2, z, rfl, rfl, z1, z2⟩
   refine ⟨ext_wlm E9 _, ?_⟩
   refine wY [_, _, _, _, _, _, _] rfl ?_
   refine dw_eff (i := 11) rfl (by decide +kernel) ?_
   refine op_fnMM [] [_] [_, _, _, _, _, _] (vs := [.pointer _, .int .i64 _]) rfl rfl rfl ((Upto_ok b y2 (v - 1) (by omega) h9)) ?_
   rintro _ h10 _ E10 ⟨y3, w, rfl, rfl, w1, w2⟩
   refine ⟨ext_wlm E10 _, ?_⟩
   refine wY [_, _, _, _, _, _, _] rfl ?_
   refine dw_eff (i := 16) rfl (by decide +kernel) ?_
   refine op_fnMM [] [_] [_, _, _, _, _, _] (vs := [.pointer _, .int .i64 _]) rfl rfl rfl ((Upto_ok b y3 (t / 2) (by omega) h10)) ?_
   rintro _ h11 _ E11 ⟨y4, e, rfl, rfl, e1, e2⟩
   refine ⟨ext_wlm E11 _, ?_⟩
   refine wY [_, _, _, _, _, _, _] rfl ?_
   refine qI (i := 17) rfl (by decide +kernel) (pv_build (zc := [_, _, _]) (vs := [(0, .int .i64 _), (1, .int .i64 _), (2, .int .i64 _)]) (cs := [_, _, _]) rfl rfl rfl rfl rfl rfl) ?_
   refine dw_eff (i := 18) rfl (by decide +kernel) ?_
   refine wA (zc := [_, _, _]) (vs := [(0, .agg #[.int .i64 _, .int .i64 _, .int .i64 _])]) (cs := [_, _, _]) rfl rfl rfl rfl rfl rfl rfl fun b76 hb76 => ?_
   refine ⟨ext_newM hb76 _, ?_⟩
   refine wY [_, _, _, _, _, _, _, _] rfl ?_
   refine zA (i := 19) rfl (by decide +kernel) (by decide +kernel) ?_
   refine wZ 4 KA rfl rfl rfl (fun V => rdP V (i := 7) rfl) rfl rfl rfl rfl rfl rfl rfl rfl rfl (by omega) rfl (by rw [wN (m := 3) (fun _ _ => rfl)]; simp; omega) fun a2 h4a E4a ha2 => ?_
   refine wY [_, _, _, _, _, _, _, _] rfl ?_
   refine qI (i := 20) rfl (by decide +kernel) (qF rfl rfl rfl rfl 6 rfl) ?_
   refine zA (i := 21) rfl (by decide +kernel) (by decide +kernel) ?_
   refine wI 2 (v := .slice _ _ _) (vs := [_]) (c' := [_, _, _, _, _, _, _, _, _]) rfl rfl rfl rfl rfl rfl rfl rfl rfl ?_
   refine wY [_, _, _, _, _, _, _, _] rfl ?_
   refine zN rfl ?_
   refine qB rfl ?_
   refine qA (qC (v := .int .i64 _) rfl) ?_
   refine qA (qS rfl (by omega)) ?_
   refine qA (qD (v := .int .i64 _) rfl) ?_
   refine ⟨(j - 1, y4, qs ++ [⟨z, w, e⟩], a2), ⟨rfl, trivial⟩, rfl, rfl, (zT (zT (zT (zT E_j E9) E10) E11) E4a), fun h3 E3 => ⟨⟨by omega, by simp; omega⟩, mem_one L3 ⟨⟨z1, by show z < r; omega⟩, ⟨w1, by show w < v; omega⟩, ⟨e1, by show e ≤ t; omega⟩⟩, by rw [List.flatMap_append]; exact ha2⟩, by first | omega | (dsimp only; omega), ?_⟩
   repeat (first | exact qW _ _ _ | refine wD (by decide) ?_ | refine qV rfl ?_ | refine wE rfl ?_)
  ·skip
   have hj0 : j = 0 := by have := of_decide_eq_false hu; omega
   obtain ⟨pP, AQ, nP, cQ⟩ := a
   obtain rfl : nP = qs.length := by have := AccR.len KA; rw [wN (m := 3) (fun _ _ => rfl)] at this; dsimp only at this; omega
   dsimp only at *
   have hcQ : qs.length ≤ cQ := AccP.cap KA (by omega)
   refine goes_pubO 4 rfl ?_
   intro gP GP PP
   refine qT [_, _, _, _, _, _, _] rfl ?_
   have RP : Row gP 3 pinC AQ qs := ⟨fun _ _ => rfl, AccR.rd KA PP⟩
   refine wV ?_
   refine xp_cutB [12, 13, 79, 80, 81, 82, 83, 84, 85, 86, 87, 88, 89, 90, 91, 92, 93, 94, 95, 96, 97, 98, 99, 100, 101, 102, 103, 104, 105, 106, 107, 108, 109, 110, 111, 112, 113, 114, 115, 116, 117, 118, 119, 120, 121, 122, 123, 124, 125] 7 (α := Nat × List LinkP × Acc) (fun ⟨y, ls, a⟩ => []) (fun ⟨y, ls, a⟩ L => ((L.set 0 (some (b, .cells #[.int .u64 (y : Int)] 67 (0, 0)))).set 2 (some (b9, .cells #[.int .i64 r, .int .i64 v, .int .i64 g, .int .i64 t, .int .i64 o, .slice AB bs.length cB, .slice AQ qs.length cQ, .slice a.A a.n a.c, .slice none 0 0] 26 (0, 0)))).set 5 (a.p)) (fun ⟨y, ls, a⟩ h_y => (ls.length : Int) ≤ links ∧ (∀ p ∈ ls, (0 ≤ p.frm ∧ p.frm < r) ∧ (0 ≤ p.to ∧ p.to < r) ∧ p.frm ≠ p.to ∧ (-1 ≤ p.reg ∧ p.reg < g) ∧ (1 ≤ p.lag ∧ p.lag ≤ t)) ∧ AccR 73 4 (ls.flatMap linkC) a) ?_ ?_
   ·skip
    refine qE ?_
    refine qB rfl ?_
    refine qA (qC (v := .pointer (some ⟨b, 0, none⟩)) rfl) ?_
    refine qA (qC (v := .int .i64 _) rfl) ?_
    refine op_fnMM [] [_] [_, _, _, _, _, _] (vs := [.pointer _, .int .i64 _]) rfl rfl rfl ((Upto_ok b y links (by omega) gP)) ?_
    rintro _ h12 _ E12 ⟨x12, k0, rfl, rfl, k01, k02⟩
    refine qL [_, _, _, _, _, _, _] rfl ?_
    refine qA (qD (v := .int .i64 _) rfl) ?_
    refine qQ ?_
    refine zH [12, 13, 82, 83, 84, 85, 86, 87, 88, 89, 90, 91, 92, 93, 94, 95, 96, 97, 98, 99, 100, 101, 102, 103, 104, 105, 106, 107, 108, 109, 110, 111, 112, 113, 114, 115, 116, 117, 118, 119, 120, 121, 122, 123, 124, 125] 7 (α := Int × Nat × List LinkP × Acc) (fun ⟨k, y, ls, a⟩ => [(12, .int .i64 k)]) (fun ⟨k, y, ls, a⟩ L => ((L.set 0 (some (b, .cells #[.int .u64 (y : Int)] 67 (0, 0)))).set 2 (some (b9, .cells #[.int .i64 r, .int .i64 v, .int .i64 g, .int .i64 t, .int .i64 o, .slice AB bs.length cB, .slice AQ qs.length cQ, .slice a.A a.n a.c, .slice none 0 0] 26 (0, 0)))).set 5 (a.p)) (fun ⟨k, y, ls, a⟩ h_k => (0 ≤ k ∧ k + ls.length ≤ links) ∧ (∀ p ∈ ls, (0 ≤ p.frm ∧ p.frm < r) ∧ (0 ≤ p.to ∧ p.to < r) ∧ p.frm ≠ p.to ∧ (-1 ≤ p.reg ∧ p.reg < g) ∧ (1 ≤ p.lag ∧ p.lag ≤ t)) ∧ AccR 73 4 (ls.flatMap linkC) a) (fun ⟨k, y, ls, a⟩ => k.toNat) ((k0, x12, [], acc0)) ⟨rfl, trivial⟩ (rfl) (⟨⟨by omega, by simp; omega⟩, fun _ hz => absurd hz List.not_mem_nil, accR0⟩) ?_
    rintro ⟨k, y, ls, a⟩ T6 h_k E_k J_k
    refine qT [_, _, _, _, _, _, _] rfl ?_
    obtain ⟨⟨N1, N2⟩, N3, KA⟩ := J_k
    refine qE ?_
    refine qE ?_
    refine qB rfl ?_
    refine qA (qC (v := .int .i64 _) rfl) ?_
    refine qA (qN (v := .bool _) rfl) ?_
    refine qA (qC (v := .bool _) rfl) ?_
    rcases Bool.eq_false_or_eq_true (decide (k > 0)) with hk | hk
    ·skip
     have hk0 : k > 0 := of_decide_eq_true hk
     refine qG rfl hk ?_
     refine qA (qF rfl rfl rfl rfl 0 rfl) ?_
     refine qG rfl hk ?_
     refine qJ 2 (v := .int .i64 _) rfl rfl rfl rfl ?_
     refine qG rfl hk ?_
     refine qA (qN (v := .bool _) rfl) ?_
     refine qA (wP rfl hk (v := .bool _) rfl) ?_
     refine qU rfl (fun hr => ?_) (fun hr => ?_)
     ·skip
      have hr1 : r > 1 := of_decide_eq_true hr
      refine qR ?_
      refine qE ?_
      refine qQ ?_
      refine qE ?_
      refine xp_dw [true, false, false, false, false, false, false] rfl rfl rfl ?_
      refine qI (i := 0) rfl (by decide +kernel) (qC (v := .pointer (some ⟨b, 0, none⟩)) rfl) ?_
      refine qI (i := 1) rfl (by decide +kernel) (qF rfl rfl rfl rfl 0 rfl) ?_
      refine wH (i := 2) rfl (by decide +kernel) ?_
      refine qJ 2 (v := .int .i64 _) rfl rfl rfl rfl ?_
      refine qI (i := 3) rfl (by decide +kernel) (qS rfl (by omega)) ?_
      refine qI (i := 5) rfl (by decide +kernel) (qC (v := .pointer (some ⟨b, 0, none⟩)) rfl) ?_
      refine qI (i := 6) rfl (by decide +kernel) (qF rfl rfl rfl rfl 2 rfl) ?_
      refine wH (i := 7) rfl (by decide +kernel) ?_
      refine qJ 2 (v := .int .i64 _) rfl rfl rfl rfl ?_
      refine qI (i := 8) rfl (by decide +kernel) (qS rfl (by omega)) ?_
      refine qI (i := 10) rfl (by decide +kernel) (qC (v := .pointer (some ⟨b, 0, none⟩)) rfl) ?_
      refine qI (i := 11) rfl (by decide +kernel) (qF rfl rfl rfl rfl 3 rfl) ?_
      refine wH (i := 12) rfl (by decide +kernel) ?_
      refine qJ 2 (v := .int .i64 _) rfl rfl rfl rfl ?_
      refine qI (i := 13) rfl (by decide +kernel) (pv_quoT (c := t / 3) rfl rfl (by omega) (Int.tdiv_eq_ediv_of_nonneg (by omega)) (by omega)) ?_
      refine qI (i := 14) rfl (by decide +kernel) (pv_max rfl rfl) ?_
      refine dw_eff (i := 4) rfl (by decide +kernel) ?_
      refine op_fnMM [] [_] [_, _, _, _, _, _] (vs := [.pointer _, .int .i64 _]) rfl rfl rfl ((Upto_ok b y (r - 1) (by omega) h_k)) ?_
      rintro _ h13 _ E13 ⟨y2, z, rfl, rfl, z1, z2⟩
      refine ⟨ext_wlm E13 _, ?_⟩
      refine wY [_, _, _, _, _, _, _] rfl ?_
      refine dw_eff (i := 9) rfl (by decide +kernel) ?_
      refine op_fnMM [] [_] [_, _, _, _, _, _] (vs := [.pointer _, .int .i64 _, .int .i64 _]) rfl rfl rfl ((Within_ok b y2 (-1) (g - 1) (by omega) (by omega) (by omega) h13)) ?_
      rintro _ h14 _ E14 ⟨y3, e, rfl, rfl, e1, e2⟩
      refine ⟨ext_wlm E14 _, ?_⟩
      refine wY [_, _, _, _, _, _, _] rfl ?_
      refine zA (i := 15) rfl (by decide +kernel) (by decide +kernel) ?_
      refine op_fnMM [] [_] [_, _, _, _, _, _] (vs := [.pointer _, .int .i64 _, .int .i64 _]) rfl rfl rfl ((Within_ok b y3 1 (max 1 (t / 3)) (by omega) (by omega) (by omega) h14)) ?_
      rintro _ h15 _ E15 ⟨y4, w, rfl, rfl, w1, w2⟩
      refine wY [_, _, _, _, _, _, _] rfl ?_
      refine qI (i := 16) rfl (by decide +kernel) (pv_build (zc := [_, _, _, _]) (vs := [(0, .int .i64 _), (2, .int .i64 _), (3, .int .i64 _)]) (cs := [_, _, _, _]) rfl rfl rfl rfl rfl rfl) ?_
      refine dw_eff (i := 17) rfl (by decide +kernel) ?_
      refine zF (cs := [_, _, _, _]) rfl rfl fun b13 hb13 => ?_
      refine ⟨ext_newM hb13 _, ?_⟩
      refine wY [_, _, _, _, _, _, _, _] rfl ?_
      refine zA (i := 18) rfl (by decide +kernel) (by decide +kernel) ?_
      refine wI 7 (v := .agg #[.int .i64 _, .int .i64 _, .int .i64 _, .int .i64 _]) (vs := [_, _, _, _]) (c' := [_, _, _, _]) rfl rfl rfl rfl rfl rfl rfl rfl rfl ?_
      refine wY [_, _, _, _, _, _, _, _] rfl ?_
      refine zN rfl ?_
      refine qE ?_
      refine xp_dw [true, false, false, false, false, false, false, false] rfl rfl rfl ?_
      refine qI (i := 0) rfl (by decide +kernel) (qF rfl rfl rfl rfl 0 rfl) ?_
      refine wH (i := 1) rfl (by decide +kernel) ?_
      refine qJ 7 (v := .int .i64 _) rfl rfl rfl rfl ?_
      refine qI (i := 2) rfl (by decide +kernel) (qC (v := .pointer (some ⟨b, 0, none⟩)) rfl) ?_
      refine qI (i := 3) rfl (by decide +kernel) (qF rfl rfl rfl rfl 0 rfl) ?_
      refine wH (i := 4) rfl (by decide +kernel) ?_
      refine qJ 2 (v := .int .i64 _) rfl rfl rfl rfl ?_
      refine qI (i := 5) rfl (by decide +kernel) (qS rfl (by omega)) ?_
      refine qI (i := 8) rfl (by decide +kernel) (qF rfl rfl rfl rfl 0 rfl) ?_
      refine wH (i := 9) rfl (by decide +kernel) ?_
      refine qJ 2 (v := .int .i64 _) rfl rfl rfl rfl ?_
      refine dw_eff (i := 6) rfl (by decide +kernel) ?_
      refine op_fnMM [] [_] [_, _, _, _, _, _, _] (vs := [.pointer _, .int .i64 _, .int .i64 _]) rfl rfl rfl ((Within_ok b y4 1 (r - 1) (by omega) (by omega) (by omega) h15)) ?_
      rintro _ h16 _ E16 ⟨y5, d, rfl, rfl, d1, d2⟩
      refine ⟨ext_wlm E16 _, ?_⟩
      refine wY [_, _, _, _, _, _, _, _] rfl ?_
      refine qI (i := 7) rfl (by decide +kernel) (qS rfl (by omega)) ?_
      refine zA (i := 10) rfl (by decide +kernel) (by decide +kernel) ?_
      refine wJ (caps := []) (vs := [.int .i64 _, .int .i64 _]) rfl rfl rfl (Turn_ok (z + d) r (by omega) h16) ?_
      rintro _ h17 E17 rfl
      have tb := turnI_bd (z + d) r
      have tn := turnI_ne (f := z) (d := d) (n := r) (by omega) ⟨z1, by omega⟩ ⟨d1, by omega⟩
      refine qI (i := 11) rfl (by decide +kernel) (qF rfl rfl rfl rfl 1 rfl) ?_
      refine zA (i := 12) rfl (by decide +kernel) (by decide +kernel) ?_
      refine wI 7 (v := .int .i64 _) (vs := [_]) (c' := [_, _, _, _]) rfl rfl rfl rfl rfl rfl rfl rfl rfl ?_
      refine wY [_, _, _, _, _, _, _, _] rfl ?_
      refine zN rfl ?_
      refine qB rfl ?_
      refine qA (qF rfl rfl rfl rfl 7 rfl) ?_
      refine qJ 2 (v := .slice _ _ _) rfl rfl rfl rfl ?_
      refine qY 7 (vs := [.int .i64 _, .int .i64 _, .int .i64 _, .int .i64 _]) rfl rfl rfl rfl rfl ?_
      refine wA (zc := [_, _, _, _]) (vs := [(0, .agg #[.int .i64 _, .int .i64 _, .int .i64 _, .int .i64 _])]) (cs := [_, _, _, _]) rfl rfl rfl rfl rfl rfl rfl fun b123 hb123 => ?_
      refine qL [_, _, _, _, _, _, _, _, _] rfl ?_
      refine wZ 5 KA rfl rfl rfl (fun V => rdP V (i := 8) rfl) rfl rfl rfl rfl rfl rfl rfl rfl rfl (by omega) rfl (by rw [wN (m := 4) (fun _ _ => rfl)]; simp; omega) fun a2 h7a E7a ha2 => ?_
      refine qL [_, _, _, _, _, _, _, _, _] rfl ?_
      refine qA (qF rfl rfl rfl rfl 7 rfl) ?_
      refine wI 2 (v := .slice _ _ _) (vs := [_]) (c' := [_, _, _, _, _, _, _, _, _]) rfl rfl rfl rfl rfl rfl rfl rfl rfl ?_
      refine qL [_, _, _, _, _, _, _, _, _] rfl ?_
      refine qB rfl ?_
      refine qA (qC (v := .int .i64 _) rfl) ?_
      refine qA (qS rfl (by omega)) ?_
      refine qA (qD (v := .int .i64 _) rfl) ?_
      refine ⟨(k - 1, y5, ls ++ [⟨z, turnI (z + d) r, e, w⟩], a2), ⟨rfl, trivial⟩, rfl, rfl, (zT (zT (zT (zT (zT (zT E_k E13) E14) E15) E16) E17) E7a), fun h3 E3 => ⟨⟨by omega, by simp; omega⟩, mem_one N3 ⟨⟨z1, by show z < r; omega⟩, ⟨tb.1, tb.2 (by omega)⟩, fun he => tn he.symm, ⟨e1, by show e < g; omega⟩, ⟨w1, by show w ≤ t; omega⟩⟩, by rw [List.flatMap_append]; exact ha2⟩, by first | omega | (dsimp only; omega), ?_⟩
      repeat (first | exact qW _ _ _ | refine wD (by decide) ?_ | refine qV rfl ?_ | refine wE rfl ?_)
     ·skip
      refine wV ?_
      refine ⟨(y, ls, a), trivial, rfl, rfl, (zT E12 E_k), fun h3 E3 => ⟨by omega, N3, KA⟩, ?_⟩
      repeat (first | exact zR _ _ | exact qW _ _ _ | refine wD (by decide) ?_ | refine qV rfl ?_ | refine wE rfl ?_)
    ·skip
     have hk0 : k = 0 := by have := of_decide_eq_false hk; omega
     refine qK rfl hk ?_
     refine qK rfl hk ?_
     refine qK rfl hk ?_
     refine qA (wT rfl hk (v := .bool _) rfl) ?_
     refine zJ rfl (rfl) ?_
     refine wV ?_
     refine ⟨(y, ls, a), trivial, rfl, rfl, (zT E12 E_k), fun h3 E3 => ⟨by omega, N3, KA⟩, ?_⟩
     repeat (first | exact zR _ _ | exact qW _ _ _ | refine wD (by decide) ?_ | refine qV rfl ?_ | refine wE rfl ?_)
   ·rintro ⟨y, ls, a⟩ T5 h_y E_y J_y
    refine qT [_, _, _, _, _, _, _] rfl ?_
    obtain ⟨N1, N3, KA⟩ := J_y
    obtain ⟨pL, AL, nL, cL⟩ := a
    obtain rfl : nL = ls.length := by have := AccR.len KA; rw [wN (m := 4) (fun _ _ => rfl)] at this; dsimp only at this; omega
    dsimp only at *
    have hcL : ls.length ≤ cL := AccP.cap KA (by omega)
    refine goes_pubO 5 rfl ?_
    intro gL GL PL
    refine qT [_, _, _, _, _, _, _] rfl ?_
    have RL : Row gL 4 linkC AL ls := ⟨fun _ _ => rfl, AccR.rd KA PL⟩
    refine qE ?_
    refine qE ?_
    refine qB rfl ?_
    refine qA (qD (v := .int .i64 _) rfl) ?_
    refine qQ ?_
    refine zH [14, 126, 127, 128, 129, 130, 131, 132, 133, 134, 135, 136, 137, 138] 7 (α := Nat × Nat × List Int × Acc) (fun ⟨k, y, ws, a⟩ => [(14, .int .i64 k)]) (fun ⟨k, y, ws, a⟩ L => ((L.set 0 (some (b, .cells #[.int .u64 (y : Int)] 67 (0, 0)))).set 2 (some (b9, .cells #[.int .i64 r, .int .i64 v, .int .i64 g, .int .i64 t, .int .i64 o, .slice AB bs.length cB, .slice AQ qs.length cQ, .slice AL ls.length cL, .slice a.A a.n a.c] 26 (0, 0)))).set 6 (a.p)) (fun ⟨k, y, ws, a⟩ h_k => (k ≤ v.toNat ∧ ws.length = k) ∧ (∀ z ∈ ws, 0 ≤ z ∧ z ≤ 50) ∧ AccR 3 1 (ws.flatMap intC) a) (fun ⟨k, y, ws, a⟩ => v.toNat - k) ((0, y, [], acc0)) ⟨rfl, trivial⟩ (rfl) (⟨⟨by omega, rfl⟩, fun _ hz => absurd hz List.not_mem_nil, accR0⟩) ?_
    rintro ⟨k, y, ws, a⟩ T8 h_k E_k J_k
    refine qT [_, _, _, _, _, _, _] rfl ?_
    obtain ⟨⟨M1, M2⟩, M3, KA⟩ := J_k
    refine qE ?_
    refine qE ?_
    refine qB rfl ?_
    refine qA (qC (v := .int .i64 _) rfl) ?_
    refine qA (qF rfl rfl rfl rfl 1 rfl) ?_
    refine qJ 2 (v := .int .i64 _) rfl rfl rfl rfl ?_
    refine qA (qN (v := .bool _) rfl) ?_
    refine qU rfl (fun hw => ?_) (fun hw => ?_)
    ·skip
     have hkv : (k : Int) < v := of_decide_eq_true hw
     refine qR ?_
     refine qE ?_
     refine qQ ?_
     refine xp_dw [true, false, false, false, false, false, false] rfl rfl rfl ?_
     refine qI (i := 0) rfl (by decide +kernel) (qF rfl rfl rfl rfl 8 rfl) ?_
     refine wH (i := 1) rfl (by decide +kernel) ?_
     refine qJ 2 (v := .slice _ _ _) rfl rfl rfl rfl ?_
     refine qI (i := 2) rfl (by decide +kernel) (qC (v := .pointer (some ⟨b, 0, none⟩)) rfl) ?_
     refine dw_eff (i := 3) rfl (by decide +kernel) ?_
     refine op_fnMM [] [_] [_, _, _, _, _, _] (vs := [.pointer _, .int .i64 _]) rfl rfl rfl ((Upto_ok b y 9 (by omega) h_k)) ?_
     rintro _ h18 _ E18 ⟨y2, z, rfl, rfl, z1, z2⟩
     refine ⟨ext_wlm E18 _, ?_⟩
     refine wY [_, _, _, _, _, _, _] rfl ?_
     refine dw_eff (i := 4) rfl (by decide +kernel) ?_
     refine wA (zc := [_]) (vs := [(0, .int .i64 _)]) (cs := [_]) rfl rfl rfl rfl rfl rfl rfl fun b136 hb136 => ?_
     refine ⟨ext_newM hb136 _, ?_⟩
     refine wY [_, _, _, _, _, _, _, _] rfl ?_
     refine zA (i := 5) rfl (by decide +kernel) (by decide +kernel) ?_
     refine wZ 6 KA rfl rfl rfl (fun V => rdP V (i := 7) rfl) rfl rfl rfl rfl rfl rfl rfl rfl rfl (by omega) rfl (by rw [wN (m := 1) (fun _ _ => rfl)]; simp; omega) fun a2 h9a E9a ha2 => ?_
     refine wY [_, _, _, _, _, _, _, _] rfl ?_
     refine qI (i := 6) rfl (by decide +kernel) (qF rfl rfl rfl rfl 8 rfl) ?_
     refine zA (i := 7) rfl (by decide +kernel) (by decide +kernel) ?_
     refine wI 2 (v := .slice _ _ _) (vs := [_]) (c' := [_, _, _, _, _, _, _, _, _]) rfl rfl rfl rfl rfl rfl rfl rfl rfl ?_
     refine wY [_, _, _, _, _, _, _, _] rfl ?_
     refine zN rfl ?_
     refine qB rfl ?_
     refine qA (qC (v := .int .i64 _) rfl) ?_
     refine qA (qS rfl (by omega)) ?_
     refine qA (qD (v := .int .i64 _) rfl) ?_
     refine ⟨(k + 1, y2, ws ++ [z], a2), ⟨rfl, trivial⟩, rfl, rfl, (zT (zT E_k E18) E9a), fun h3 E3 => ⟨⟨by omega, by simp; omega⟩, mem_one M3 ⟨z1, by omega⟩, by rw [List.flatMap_append]; exact ha2⟩, by first | omega | (dsimp only; omega), ?_⟩
     repeat (first | exact qW _ _ _ | refine wD (by decide) ?_ | refine qV rfl ?_ | refine wE rfl ?_)
    ·skip
     have hkv : (k : Int) = v := by have := of_decide_eq_false hw; omega
     obtain ⟨pW, AW, nW, cW⟩ := a
     obtain rfl : nW = ws.length := by have := AccR.len KA; rw [wN (m := 1) (fun _ _ => rfl)] at this; dsimp only at this; omega
     dsimp only at *
     refine goes_pubO 6 rfl ?_
     intro gW GW PW
     refine qT [_, _, _, _, _, _, _] rfl ?_
     have RW : Row gW 1 intC AW ws := ⟨fun _ _ => rfl, AccR.rd KA PW⟩
     refine wV ?_
     refine qE ?_
     refine qB rfl ?_
     refine qY 2 (vs := [.int .i64 _, .int .i64 _, .int .i64 _, .int .i64 _, .int .i64 _, .slice _ _ _, .slice _ _ _, .slice _ _ _, .slice _ _ _]) rfl rfl rfl rfl rfl ?_
     refine wI 1 (v := .agg #[.int .i64 _, .int .i64 _, .int .i64 _, .int .i64 _, .int .i64 _, .slice _ _ _, .slice _ _ _, .slice _ _ _, .slice _ _ _]) (vs := [_, _, _, _, _, _, _, _, _]) (c' := [_, _, _, _, _, _, _, _, _]) rfl rfl rfl rfl rfl rfl rfl rfl rfl ?_
     refine qL [_, _, _, _, _, _, _] rfl ?_
     refine qZ ?_
     refine qP (vs := [_]) Tryz.results8 ⟨resV_agg 1 rfl rfl rfl rfl rfl (vs := [.int .i64 _, .int .i64 _, .int .i64 _, .int .i64 _, .int .i64 _, .slice _ _ _, .slice _ _ _, .slice _ _ _, .slice _ _ _]) rfl, trivial⟩ fun V => ?_
     obtain ⟨h9, E9, e9, V9⟩ := wl_drop [_, _, _, _, _, _] [_] V
     have RB9 := (RB.ext (zT (zT (zT (zT (zT (zT E8 E_j) GP) E_y) GL) E_k) GW)).ext E9
     refine ⟨h9, _, e9, V9, zT (zT (zT (zT (zT (zT (zT (zT (zT (zT (zT (zT (zT (zT (zT E1 E2) E3) E4) E5) E6) E_i) GB) E8) E_j) GP) E_y) GL) E_k) GW) E9, y, ⟨r, v, g, t, o, bs, qs, ls, ws⟩, rfl, ⟨.slice AB bs.length cB, .slice AQ qs.length cQ, .slice AL ls.length cL, .slice AW ws.length cW, rfl, ⟨AB, cB, rfl, RB9⟩, ⟨AQ, cQ, rfl, (RP.ext (zT (zT (zT E_y GL) E_k) GW)).ext E9⟩, ⟨AL, cL, rfl, (RL.ext (zT E_k GW)).ext E9⟩, ⟨AW, cW, rfl, RW.ext E9⟩⟩, ?_⟩
     exact ⟨⟨⟨⟨r1, by show r ≤ 6; omega⟩, ⟨v1, by show v ≤ 6; omega⟩, ⟨g1, by show g ≤ 2; omega⟩, ⟨by show 1 ≤ t; omega, t2⟩, ⟨o1, by show o ≤ t; omega⟩, by show bs.length ≤ 4; omega, K3, by show qs.length ≤ 8; omega, L3, by show ls.length ≤ 4; omega, N3, by show (ws.length : Int) = v; omega, M3⟩, by show r ≤ size; omega, by show v ≤ size; omega, by show bs.length ≤ 3; omega, by show (qs.length : Int) ≤ pins; omega, N1⟩, capM_of hcQ hcL⟩
end
end Go.Proofs.YthphpbdmbmiaiaaGreat
namespace Go.Proofs.YthphpbdmbmiaiaaGreat
open Go Go.HL Go.Proofs Go.Wx Go.Rd
section
variable [Lvl]
set_option maxRecDepth 100000
theorem set_of {l : List Int} {n : Nat} {k : Int} (e : k = n) (h : ∀ z ∈ l, 0 ≤ z ∧ z < n) (p : l.Pairwise (· < ·)) : SetOK l k := by
 subst e
 exact ⟨h, p⟩
theorem HandOf_ok (b x : Nat) (m : MachP) (hb : m.buttons.length ≤ 100) (hr : 0 ≤ m.regs ∧ m.regs ≤ 100) (AB AQ AL AW : Option Addr) (cB cQ cL cW : Nat) (h : AH) :
  FnM Tryz.prog (.func (.func 35) #[] ([] : List Value).toArray) [.pointer (some ⟨b, 0, none⟩), machV AB AQ AL AW cB cQ cL cW m] h [some (b, .cells #[.int .u64 (x : Int)] 67 (0, 0))]
  (fun v h' M' => ∃ (x' : Nat) (a : HandP), M' = [some (b, .cells #[.int .u64 (x' : Int)] 67 (0, 0))] ∧ HandV h' a v ∧ HOK m a) := by
 refine fnM_body rfl rfl Tryz.func35 rfl Tryz.ntmps35 rfl ?_
 refine qE ?_
 refine qB rfl ?_
 refine zG (v := .agg #[.int .i64 _, .int .i64 _, .int .i64 _, .int .i64 _, .int .i64 _, .slice _ _ _, .slice _ _ _, .slice _ _ _, .slice _ _ _]) (cs := [_, _, _, _, _, _, _, _, _]) rfl rfl fun b3 hb3 => ?_
 refine qL [_, _] rfl ?_
 refine zF (cs := [_, _]) rfl rfl fun b4 hb4 => ?_
 refine qL [_, _, _] rfl ?_
 refine qE ?_
 refine xp_dw [true, false, false] rfl rfl rfl ?_
 refine qI (i := 0) rfl (by decide +kernel) (qC (v := .pointer (some ⟨b, 0, none⟩)) rfl) ?_
 refine qI (i := 1) rfl (by decide +kernel) (qF rfl rfl rfl rfl 5 rfl) ?_
 refine wH (i := 2) rfl (by decide +kernel) ?_
 refine qJ 1 (v := .slice _ _ _) rfl rfl rfl rfl ?_
 refine qI (i := 3) rfl (by decide +kernel) (wK rfl rfl) ?_
 refine qI (i := 5) rfl (by decide +kernel) (qC (v := .pointer (some ⟨b, 0, none⟩)) rfl) ?_
 refine qI (i := 6) rfl (by decide +kernel) (qF rfl rfl rfl rfl 2 rfl) ?_
 refine wH (i := 7) rfl (by decide +kernel) ?_
 refine qJ 1 (v := .int .i64 _) rfl rfl rfl rfl ?_
 refine dw_eff (i := 4) rfl (by decide +kernel) ?_
 refine op_fnMM [] [_] [_, _] (vs := [.pointer _, .int .i64 _]) rfl rfl rfl ((Pick_ok b x m.buttons.length (by omega) h)) ?_
 rintro _ h1 _ E1 ⟨x1, l, rfl, ⟨A1, c1, rfl, R1⟩, k1, k2, k3⟩
 refine ⟨ext_wlm E1 _, ?_⟩
 refine wY [_, _, _] rfl ?_
 refine zA (i := 8) rfl (by decide +kernel) (by decide +kernel) ?_
 refine op_fnMM [] [_] [_, _] (vs := [.pointer _, .int .i64 _]) rfl rfl rfl (fnM_args (by simp only [List.cons.injEq, Value.int.injEq, true_and, and_true]; omega) (Pick_ok b x1 m.regs.toNat (by omega) h1)) ?_
 rintro _ h2 _ E2 ⟨x2, l2, rfl, ⟨A2, c2, rfl, R2⟩, j1, j2, j3⟩
 refine wY [_, _, _] rfl ?_
 refine qI (i := 9) rfl (by decide +kernel) (pv_build (zc := [_, _]) (vs := [(0, .slice _ _ _), (1, .slice _ _ _)]) (cs := [_, _]) rfl rfl rfl rfl rfl rfl) ?_
 refine zA (i := 10) rfl (by decide +kernel) (by decide +kernel) ?_
 refine wI 2 (v := .agg #[.slice _ _ _, .slice _ _ _]) (vs := [_, _]) (c' := [_, _]) rfl rfl rfl rfl rfl rfl rfl rfl rfl ?_
 refine wY [_, _, _] rfl ?_
 refine zN rfl ?_
 refine qZ ?_
 refine qP (vs := [_]) Tryz.results35 ⟨resV_agg 2 rfl rfl rfl rfl rfl (vs := [.slice _ _ _, .slice _ _ _]) rfl, trivial⟩ fun V => ?_
 obtain ⟨h9, E9, e9, V9⟩ := wl_drop [_, _] [_] V
 exact ⟨h9, _, e9, V9, zT (zT E1 E2) E9, x2, ⟨l, l2⟩, rfl, ⟨_, _, rfl, ⟨A1, c1, rfl, (R1.ext E2).ext E9⟩, ⟨A2, c2, rfl, R2.ext E9⟩⟩, ⟨k1, k2⟩, set_of (by omega) j1 j2⟩
end
end Go.Proofs.YthphpbdmbmiaiaaGreat
namespace Go.HL
open Go Go.Wx Go.RowKit
def lawK (t : Nat) (h0 : AH) : Post
 | .normal, S, D, L, h => D = [] ∧ (Valid h L → Ext h0 (wl h L)) ∧ S t = .bool true
 | .ret, S, D, L, h => D = [] ∧ (Valid h L → Ext h0 (wl h L)) ∧ S t = .bool true
 | _, _, _, _, _ => False
theorem below_of {w w' : World} (se : SameEnv w w') (e : Ext (absH w.heap) (absH w'.heap)) : Below w.heap.size w w' := by
 have hb : ∀ k, k < w.heap.size → w'.heap[k]? = w.heap[k]? := by
  intro k hk
  have h1 : absH w.heap k = some w.heap[k] := Array.getElem?_eq_getElem hk
  have h2 : w'.heap[k]? = some w.heap[k] := e k _ h1
  rw [h2]
  exact (Array.getElem?_eq_getElem hk).symm
 refine ⟨se.os, se.tape, se.output, ?_, hb⟩
 rcases Nat.lt_or_ge w'.heap.size w.heap.size with h1 | h1
 ·have h2 := hb w'.heap.size h1
  rw [Array.getElem?_eq_getElem h1] at h2
  simp at h2
 ·exact h1
variable [Lvl]
end Go.HL
namespace Go.HL
open Go Go.Wx Go.RowKit Go.Conc Go.ConcN
def RunsTrue (P : Program) (f : FuncId) (args : Array Value) (w : World) : Prop :=
 ∃ M last o w' t', runNT P (M + 1) (solo (G (Frame.enter P f args .normal) []) w) #[] = (.ended o w', t') ∧ runN P M (solo (G (Frame.enter P f args .normal) []) w) = .next last ∧ step P last = .ended o w' ∧
  Go.Conc.Good P (fun v W' => v = .bool true ∧ Below w.heap.size w W') last o w' t'
theorem runs_body {P : Program} {f : FuncId} {fn : Func} {c : Code} {args : Array Value} {n t : Nat} {w : World} (hf : P.funcs[f]? = some fn) (hb : fn.body = some c) (hn : fn.ntmps = n) (ha : Nat.ble args.size n = true) (hr : fn.results = #[.tmp t]) (ht : Nat.blt t n = true) (hi : P.inits.idxOf? f = none)
  (x : ∀ h, h = absH w.heap → @xp ⟨true, none, none⟩ P n none c (lawK t h) (argS args) [] [] h) :
  RunsTrue P f args w := by
 letI : Lvl := ⟨true, none, none⟩
 have he : Frame.enter P f args .normal = mk { (default : Frame) with fn := f, kind := .normal, roundOf := none } n (argS args) [] [.code c] := by
  simp [Frame.enter, mk, hf, hb, hn, enter_tmps n args (Nat.le_of_ble_eq_true ha)]
 have hres : ∀ (S : Sl) (w' : World), S t = .bool true → results fn (arr n S) = .pure (.bool true) := by
  intro S w' hs
  unfold results
  rw [hr, List.mapM_toArray]
  have e1 : (arr n S).getD t undef = .bool true := by rw [arr_getD, if_pos (Nat.lt_of_lt_of_le (Nat.lt_succ_self t) (Nat.le_of_ble_eq_true ht)), hs]
  show Sem.pure ((arr n S).getD t undef) = _
  rw [e1]
 have x1 := x _ rfl (absH w.heap) (by have := Fits.nil (valid_nil (Fin.abs w.heap)); rw [wl_nil] at this; exact this) { (default : Frame) with fn := f, kind := .normal, roundOf := none } rfl [] []
 have x2 : Rch P (fun fr cs' H => cs' = [] ∧ fr.mode = .returning ∧ fr.defers = [] ∧ fr.kind = .normal ∧ fr.fn = f ∧ (∃ S, fr.tmps = arr n S ∧ S t = .bool true) ∧ Ext (absH w.heap) H) (mk { (default : Frame) with fn := f, kind := .normal, roundOf := none } n (argS args) [] [.code c]) [] (absH w.heap) := by
  refine x1.bind ?_
  rintro fr cs' H ⟨rfl, e, S', D', L', h', V', kk, a⟩
  cases e with
  | normal =>
   obtain ⟨rfl, ex, hs⟩ := kk
   have a' : fr = mk { (default : Frame) with fn := f, kind := .normal, roundOf := none } n S' [] [] := a
   subst a'
   have hH : H = wl h' L' := by rw [V'.eq]; exact hun_nil _
   subst hH
   refine .ctl (fr' := { mk { (default : Frame) with fn := f, kind := .normal, roundOf := none } n S' [] [] with mode := .returning }) (cs' := []) (fun w => by simp [stepG, stepG.exec, mk]) (.done ⟨rfl, rfl, rfl, rfl, rfl, ⟨S', rfl, hs⟩, ex V'.valid⟩)
  | ret =>
   obtain ⟨rfl, ex, hs⟩ := kk
   obtain ⟨todo, rfl⟩ := a.1 rfl
   have hH : H = wl h' L' := by rw [V'.eq]; exact hun_nil _
   subst hH
   exact .done ⟨rfl, rfl, rfl, rfl, rfl, ⟨S', rfl, hs⟩, ex V'.valid⟩
  | _ => exact kk.elim
 unfold RunsTrue
 rw [he]
 refine x2.ends rfl rfl ?_
 rintro fr cs h w' ⟨rfl, hm, hd, hk, hfn, ⟨S, htm, hs⟩, ex⟩ se rfl
 have hr1 := hres S w' hs
 have hru : (results fn fr.tmps).runT P w' #[] = (.ok (.bool true) w', #[]) := by rw [htm, hr1]; rfl
 have hf' : P.funcs[fr.fn]? = some fn := by rw [hfn]; exact hf
 have hi' : P.inits.idxOf? fr.fn = none := by rw [hfn]; exact hi
 have h1 : stepG P true (G fr []) w' = unwind P true fr [] none w' := by
  simp [stepG, stepG.exec, hm]
 have h2 : unwind P true fr [] none w' = GStep.after (seen P fr.fn #[]) (.ended (.done (.bool true)) w') := by
  unfold unwind
  rw [hd]
  simp only [hm, hf', hru]
  unfold doReturn
  simp only [hk, hi']
  rfl
 refine ⟨rfl, .bool true, seen P fr.fn #[], ?_, fun e he => ?_, rfl, below_of se ex⟩
 ·rw [h1, h2]
  simp [GStep.after]
 ·simp [seen] at he
end Go.HL
namespace Go.Rd
open Go Go.HL Go.Wx
variable [Lvl]
theorem chk_of {m : MachP} (M : MOK m) : chkM m = 0 := by
 unfold chkM
 have h := M.rods; have h2 := M.levers; have h3 := M.regs; have h4 := M.travel; have h5 := M.opn
 rw [if_neg (by simp [inM]; omega), if_neg (by simp [inM]; omega), if_neg (by simp [inM]; omega), if_neg (by simp [inM]; omega), if_neg (by simp [inM]; omega)]
 have b1 : firstErr (checkButtonM m) m.buttons = 0 := firstErr_iff.2 fun b hb => by
  have := M.btn b hb
  unfold checkButtonM
  rw [if_neg (by simp [inM]; omega)]
 have b2 : firstErr (checkPinM m) m.pins = 0 := firstErr_iff.2 fun p hp => by
  obtain ⟨a, b, c⟩ := M.pin p hp
  unfold checkPinM
  rw [if_neg (by simp [inM]; omega), if_neg (by simp [inM]; omega), if_neg (by simp [inM]; omega)]
 have b3 : firstErr (checkLinkM m) m.links = 0 := firstErr_iff.2 fun l hl => by
  obtain ⟨a, b, c, d, e⟩ := M.link l hl
  unfold checkLinkM
  rw [if_neg (by simp [inM]; omega), if_neg (by simp [inM]; omega), if_neg c, if_neg (by simp [inM]; omega), if_neg (by simp [inM]; omega)]
 have b4 : firstErr checkWeightM m.weights = 0 := firstErr_iff.2 fun w hw => by
  have := M.wt w hw
  unfold checkWeightM
  rw [if_neg (by simp [inM]; omega)]
 rw [if_neg (by have := M.bl; omega), b1, if_neg (by decide), if_neg (by have := M.pl; omega), b2, if_neg (by decide), if_neg (by have := M.ll; omega), b3, if_neg (by decide), if_neg (by have := M.wl; omega), b4]
theorem hand_of {m : MachP} {a : HandP} (M : MOK m) (H : HOK m a) : checkHandM m a = 0 := by
 unfold checkHandM
 rw [chk_of M, if_neg (by decide), checkSet_iff.2 H.b, if_neg (by decide), checkSet_iff.2 H.o]
theorem HOK.blen {m : MachP} {a : HandP} (M : MOK m) (H : HOK m a) : a.buttons.length < 2 ^ 40 := by have := set_len H.b; have := M.bl; omega
theorem HOK.olen {m : MachP} {a : HandP} (M : MOK m) (H : HOK m a) : a.on.length < 2 ^ 40 := by
 have := M.regs
 have := set_len (below := m.regs.toNat) (by rw [Int.toNat_of_nonneg (by omega)]; exact H.o)
 omega
theorem MOK.pins {m : MachP} (M : MOK m) : ∀ p ∈ m.pins, 0 ≤ p.lever ∧ 0 ≤ p.rod := fun p hp => ⟨(M.pin p hp).2.1.1, (M.pin p hp).1.1⟩
theorem MOK.cap {m : MachP} (M : MOK m) {ps : List PinP} {ls : List LinkP} (hp : ps.length ≤ 8) (hl : ls.length ≤ 4)
  (h1 : ∀ p ∈ ps, (0 ≤ p.rod ∧ p.rod < m.rods) ∧ (0 ≤ p.lever ∧ p.lever < m.levers) ∧ (0 ≤ p.lag ∧ p.lag ≤ m.travel))
  (h2 : ∀ l ∈ ls, (0 ≤ l.frm ∧ l.frm < m.rods) ∧ (0 ≤ l.to ∧ l.to < m.rods) ∧ l.frm ≠ l.to ∧ (-1 ≤ l.reg ∧ l.reg < m.regs) ∧ (1 ≤ l.lag ∧ l.lag ≤ m.travel)) : MOK { m with pins := ps, links := ls } :=
 ⟨M.rods, M.levers, M.regs, M.travel, M.opn, M.bl, M.btn, hp, h1, hl, h2, M.wl, M.wt⟩
end Go.Rd
namespace Go.HL
open Go
variable [Lvl]
theorem rd_take {H : AH} {A : Option Addr} {cs : List Value} (r : Rd H A cs) (k : Nat) : Rd H A (cs.take k) := fun hne => by
 obtain ⟨g, off, ha, c⟩ := r (fun e => hne (by rw [e, List.take_nil]))
 refine ⟨g, off, ha, fun j u hu => c j u ?_⟩
 rw [List.getElem?_take] at hu
 split at hu
 ·exact hu
 ·cases hu
section
variable {P : Program} {n : Nat} {d : Option Tmp} {ty : TypeId} {ps : String} {af : Array Edge} {S : Sl}
end
end Go.HL
namespace Go.Proofs.YthphpbdmbmiaiaaGreat
open Go Go.HL Go.Proofs Go.Wx Go.Rd
section
variable [Lvl]
set_option maxRecDepth 100000
end
end Go.Proofs.YthphpbdmbmiaiaaGreat
namespace Go.Proofs.YthphpbdmbmiaiaaGreat
open Go Go.HL Go.Proofs Go.Wx Go.Rd
section
variable [Lvl]
set_option maxRecDepth 100000
def toldC : FaultP → List Value
 | .shut i => [.int .i64 1, .int .i64 i]
 | .opn i => [.int .i64 2, .int .i64 i]
 | .pin i => [.int .i64 3, .int .i64 i]
 | .link i => [.int .i64 4, .int .i64 i]
theorem toldM (f : FaultP) : (toldC f).length = 2 := by cases f <;> rfl
def pickL (m : MachP) (l : List Int) : List FaultP := l.map fun n => (faultsM m).getD n.toNat (.shut 0)
theorem pickL_fok {m : MachP} (M : MOK m) {l : List Int} (h : ∀ n ∈ l, 0 ≤ n ∧ n < (faultsM m).length) : ∀ f ∈ pickL m l, FOK m f := by
 intro f hf
 obtain ⟨n, hn, rfl⟩ := List.mem_map.1 hf
 have := h n hn
 rw [List.getD_eq_getElem?_getD, List.getElem?_eq_getElem (by omega)]
 exact faults_fok M (List.getElem_mem _)
theorem pick_ok (fs : List FaultP) (hF : fs.length < 2 ^ 20) (l : List Int) (hl : l.length < 2 ^ 19) (hb : ∀ n ∈ l, 0 ≤ n ∧ n < fs.length) (FA A : Option Addr) (cF c : Nat) (h : AH) (RF : Row h 1 faultC FA fs) (R : Row h 1 intC A l) :
  FnT Tryz.prog 71 #[.slice FA fs.length cF, .slice A l.length c] h (fun v h' => SlR h' 1 faultC (l.map fun n => fs.getD n.toNat (.shut 0)) v) := by
 refine wM Tryz.func71 rfl Tryz.ntmps71 rfl ?_
 refine qE ?_
 refine qB rfl ?_
 refine qA (qD (v := .slice _ _ _) rfl) ?_
 refine qE ?_
 refine qB rfl ?_
 refine qA (qD (v := .slice _ _ _) rfl) ?_
 refine qE ?_
 refine qE ?_
 refine qB rfl ?_
 refine qA (qC (v := .slice _ _ _) rfl) ?_
 refine qA (wK rfl rfl) ?_
 refine qA (qC (v := .int .i64 _) rfl) ?_
 refine qQ ?_
 refine goes_more ?_
 refine qT [_] rfl ?_
 refine zH [5, 7, 10, 11, 12, 13, 14, 15, 16, 17, 18, 19, 20, 21] 1 (α := Nat × Acc) (fun ⟨k, a⟩ => [(5, .slice a.A a.n a.c), (10, .int .i64 k)]) (fun ⟨k, a⟩ L => L.set 0 (a.p)) (fun ⟨k, a⟩ h_k => k ≤ l.length ∧ AccR 116 1 (((l.take k).map fun n => fs.getD n.toNat (.shut 0)).flatMap faultC) a) (fun ⟨k, a⟩ => l.length - k) ((0, acc0)) ⟨rfl, rfl, trivial⟩ (rfl) (⟨Nat.zero_le _, accR0⟩) ?_
 rintro ⟨k, a⟩ T1 h_k E_k J_k
 refine qT [_] rfl ?_
 obtain ⟨K1, K2⟩ := J_k
 refine qE ?_
 refine qB rfl ?_
 refine qA (qN (v := .bool _) rfl) ?_
 refine qE ?_
 refine qU rfl (fun hk => ?_) (fun hk => ?_)
 ·skip
  have hkl : k < l.length := ltI hk
  have hbk := hb _ (List.getElem_mem hkl)
  have hlf : l[k].toNat < fs.length := by omega
  have hgd : fs.getD l[k].toNat (.shut 0) = fs[l[k].toNat] := by rw [List.getD_eq_getElem?_getD, List.getElem?_eq_getElem hlf]; rfl
  obtain ⟨g, off, hA, hc⟩ := (R.ext E_k).at (by omega) hkl
  obtain ⟨g2, off2, hB, hd⟩ := (RF.ext E_k).at (by omega) hlf
  rw [← hgd] at hd
  refine qR ?_
  refine qE ?_
  refine qQ ?_
  refine qE ?_
  refine qB rfl ?_
  refine qA (wG rfl hA rfl rfl rfl (by omega) (by omega)) ?_
  refine wS (v := .int .i64 _) rfl rfl ((hc) 0 _ rfl) ?_
  refine qA (qD (v := .int .i64 _) rfl) ?_
  refine qB rfl ?_
  refine qA (qC (v := .slice _ _ _) rfl) ?_
  refine qA (qC (v := .slice _ _ _) rfl) ?_
  refine qA (qC (v := .int .i64 _) rfl) ?_
  refine qA (wG rfl hB rfl rfl rfl (by omega) (by omega)) ?_
  refine wS (v := _) rfl rfl ((hd) 0 _ rfl) ?_
  refine wA (m := 1) (zc := [.nilIface]) (vs := [(0, faultV (fs.getD l[k].toNat (.shut 0)))]) (cs := [faultV (fs.getD l[k].toNat (.shut 0))]) rfl rfl rfl rfl rfl rfl (fill_fault _) fun b19 hb19 => ?_
  refine qL [_, _] rfl ?_
  refine wZ 0 K2 rfl rfl rfl (fun V => rdP V (i := 1) rfl) rfl (faultP (fs.getD l[k].toNat (.shut 0))) rfl rfl rfl rfl rfl rfl rfl (by omega) rfl (by rw [wN (m := 1) (fun _ _ => rfl)]; simp; omega) fun a2 h2a E2a ha2 => ?_
  refine qL [_, _] rfl ?_
  refine qA (qD (v := .slice _ _ _) rfl) ?_
  refine qB rfl ?_
  refine qA (qS rfl (by omega)) ?_
  refine qA (qC (v := .int .i64 _) rfl) ?_
  refine ⟨(k + 1, a2), ⟨rfl, rfl, trivial⟩, rfl, rfl, (zT E_k E2a), fun h3 E3 => ⟨hkl, by rw [take_snoc hkl, List.map_append, List.flatMap_append]; exact ha2⟩, by first | omega | (dsimp only; omega), ?_⟩
  repeat (first | exact qW _ _ _ | refine wD (by decide) ?_ | refine qV rfl ?_ | refine wE rfl ?_)
 ·skip
  have hke : k = l.length := by have := geI hk; omega
  subst hke
  rw [List.take_length] at K2
  refine wV ?_
  refine qE ?_
  refine qB rfl ?_
  refine qA (qC (v := .slice _ _ _) rfl) ?_
  refine qA (qD (v := .slice _ _ _) rfl) ?_
  refine qZ ?_
  refine qP (vs := [_]) Tryz.results71 ⟨qM rfl rfl, trivial⟩ fun V => ?_
  exact ⟨(zT E_k (qX V)), AccP.row (i := 0) K2 (by omega) (fun _ _ => rfl) V rfl⟩
end
end Go.Proofs.YthphpbdmbmiaiaaGreat
namespace Go.Proofs.YthphpbdmbmiaiaaGreat
open Go Go.HL Go.Proofs Go.Wx Go.Rd
section
variable [Lvl]
set_option maxRecDepth 100000
theorem and_mask {n : Nat} (h : n < 2 ^ 60) : n &&& (2 ^ 64 - 1 - 0) = n := by
 apply Nat.eq_of_testBit_eq
 intro i
 rw [Nat.testBit_and, Nat.sub_zero, Nat.testBit_two_pow_sub_one]
 by_cases hi : i < 64
 ·simp [hi]
 ·have : n.testBit i = false := Nat.testBit_lt_two_pow (Nat.lt_of_lt_of_le h (Nat.pow_le_pow_right (by omega) (by omega)))
  simp [this]
theorem soundsB_nil {m : MachP} (M : MOK m) (a : HandP) : soundsB m [] a = soundsM m a m.travel := by
 have h := sounds_small (pfit_of M) a m.travel
 have e : soundsB m [] a = (soundsM m a m.travel ||| 0) &&& (2 ^ 64 - 1 - 0) := rfl
 rw [e, Nat.or_zero, and_mask h]
theorem pickF_at {m : MachP} {f : Int} (h0 : 0 ≤ f) (hf : f < (faultsM m).length) : pickF m f = pickL m [f] ∧ pickF m f = [(faultsM m)[f.toNat]'(by omega)] := by
 have hlt : f.toNat < (faultsM m).length := by omega
 have e : pickF m f = [(faultsM m)[f.toNat]'hlt] := by rw [pickF, if_neg (by omega), List.drop_eq_getElem_cons hlt]; rfl
 refine ⟨?_, e⟩
 rw [e, pickL, List.map_cons, List.map_nil, List.getD_eq_getElem?_getD, List.getElem?_eq_getElem hlt]
 rfl
def aloneM (m : MachP) (f : Int) (a : HandP) : Nat := soundsB m (pickF m f) a
theorem alone_lt {m : MachP} (M : MOK m) (f : Int) (a : HandP) : aloneM m f a < 2 ^ 6 := by
 have h1 := sounds_lt (brkM m (pickF m f)) a m.travel
 have h2 := brk_bits M.levers.2 (pick_fok M f)
 have lv := M.levers
 have h3 : 2 ^ (brkM m (pickF m f)).levers.toNat ≤ 2 ^ 6 := Nat.pow_le_pow_right (by omega) (by show m.levers.toNat ≤ 6; omega)
 unfold aloneM soundsB
 exact Nat.lt_of_le_of_lt Nat.and_le_left (Nat.or_lt_two_pow (by omega) h2.1)
theorem susp_succ {m : MachP} {hs : List HeardP} {k : Nat} (hk : k < (faultsM m).length) : suspN m hs (k + 1) = if explainsB m (pickF m k) hs then suspN m hs k ++ [(k : Int)] else suspN m hs k := by
 have e := (pickF_at (m := m) (f := (k : Int)) (by omega) (by omega)).2
 rw [e, suspN, List.getElem?_eq_getElem hk]
 rfl
end
end Go.Proofs.YthphpbdmbmiaiaaGreat
namespace Go.Proofs.YthphpbdmbmiaiaaGreat
open Go Go.HL Go.Proofs Go.Wx Go.Rd
section
variable [Lvl]
set_option maxRecDepth 100000
theorem tu_of {h : AH} {a : HandP} {s : List Int} {HA OA SA : Option Addr} {cH cO cS : Nat} (RH : HandR h HA OA a) (RS : Row h 1 intC SA s) : TU h ⟨a, s⟩ [.slice HA a.buttons.length cH, .slice OA a.on.length cO, .slice SA s.length cS] :=
 ⟨_, _, _, rfl, ⟨HA, cH, rfl, RH.b⟩, ⟨OA, cO, rfl, RH.o⟩, ⟨SA, cS, rfl, RS⟩⟩
theorem three_len {cs : List (List Value)} {c : List Value} (h : ∀ x ∈ cs, x.length = 3) (hc : c.length = 3) : ∀ x ∈ cs ++ [c], x.length = 3 := fun x hx => by
 rcases List.mem_append.1 hx with hx | hx
 ·exact h x hx
 ·simp at hx; subst hx; exact hc
theorem brk_stay_lt {m : MachP} (M : MOK m) {l : List FaultP} (hf : ∀ f ∈ l, FOK m f) : (brkF m l).stay < 2 ^ m.levers.toNat := brkF_inv (I := fun b => b.stay < 2 ^ m.levers.toNat) (Nat.two_pow_pos _) fun b f hm h => by
 have hk := hf f hm
 cases f with
 | shut i => exact h
 | opn i =>
  have hk' : (i : Int) < m.levers := hk
  exact Nat.or_lt_two_pow h (Nat.pow_lt_pow_right (by omega) (by have := M.levers; omega))
 | pin i => exact h
 | link i => exact h
end
end Go.Proofs.YthphpbdmbmiaiaaGreat
namespace Go.Rd
open Go Go.HL Go.Wx
variable [Lvl]
def pressR (bs : List Int) (depth : Int) (hb : List Int) (t : List Int) : List Int := hb.foldl (fun t b => t.set (bs.getD b.toNat 0).toNat depth) t
def sweepN (m : MachP) (a : HandP) (t : List Int) : Nat → List Int
 | 0 => t
 | k + 1 => linkM a.on m.links (sweepN m a t k)
def startR (m : MachP) (a : HandP) (depth : Int) : List Int := pressR m.buttons depth a.buttons (List.replicate m.rods.toNat 0)
theorem pressR_take {bs : List Int} {depth : Int} {hb t : List Int} {k : Nat} (h : k < hb.length) : pressR bs depth (hb.take (k + 1)) t = (pressR bs depth (hb.take k) t).set (bs.getD hb[k].toNat 0).toNat depth := by
 unfold pressR
 rw [List.take_add_one, List.getElem?_eq_getElem h, Option.toList_some, List.foldl_append]
 rfl
theorem pressR_len (bs : List Int) (depth : Int) : ∀ (hb t : List Int), (pressR bs depth hb t).length = t.length
 | [], _ => rfl
 | x :: hb, t => by
  show (pressR bs depth hb (t.set _ depth)).length = _
  rw [pressR_len bs depth hb, List.length_set]
theorem linkR_len (on : List Int) (ls : List LinkP) (t : List Int) : (linkM on ls t).length = t.length := (foldl_inc (link_inc on) ls t).1.symm
theorem sweep_len (m : MachP) (a : HandP) (t : List Int) : ∀ k, (sweepN m a t k).length = t.length
 | 0 => rfl
 | k + 1 => by rw [sweepN, linkR_len, sweep_len m a t k]
theorem start_len (m : MachP) (a : HandP) (depth : Int) : (startR m a depth).length = m.rods.toNat := by rw [startR, pressR_len, List.length_replicate]
theorem set_getD (t : List Int) (i : Nat) (v : Int) (j : Nat) : (t.set i v).getD j 0 = if j = i ∧ i < t.length then v else t.getD j 0 := by
 simp only [List.getD_eq_getElem?_getD, List.getElem?_set]
 by_cases h : i = j
 ·subst h
  by_cases hl : i < t.length
  ·simp [hl]
  ·simp [hl]
 ·have h' : ¬ j = i := fun e => h e.symm
  simp [h, h']
theorem repl_getD (n j : Nat) : (List.replicate n (0 : Int)).getD j 0 = 0 := by
 rw [List.getD_eq_getElem?_getD, List.getElem?_replicate]
 split <;> rfl
def In0 (f : Int → Int) (t : List Int) : Prop := ∀ j : Nat, 0 ≤ t.getD j 0 ∧ t.getD j 0 ≤ f j
theorem press_in {m : MachP} {a : HandP} {depth : Int} {f : Int → Int} (F : Fit m a) (hd : 0 ≤ depth) (c : Clo m a depth f) : ∀ (hb t : List Int), (∀ b ∈ hb, b ∈ a.buttons) → In0 f t → In0 f (pressR m.buttons depth hb t)
 | [], _, _, h => h
 | x :: hb, t, hs, h => by
  refine press_in F hd c hb _ (fun b h => hs b (List.mem_cons_of_mem _ h)) fun j => ?_
  rw [set_getD]
  split
  ·rename_i e
   have hx := hs x (List.mem_cons_self ..)
   have h1 := c.press x hx
   have h2 := getD_mem_ge F.btn (i := x.toNat) (by have := F.hb x hx; omega)
   rw [e.1, Int.toNat_of_nonneg h2.1]
   exact ⟨hd, h1⟩
  ·exact h j
theorem links_in {m : MachP} {a : HandP} {depth : Int} {f : Int → Int} (F : Fit m a) (c : Clo m a depth f) : ∀ (ls : List LinkP) (t : List Int), (∀ l ∈ ls, l ∈ m.links) → In0 f t → In0 f (linkM a.on ls t)
 | [], _, _, h => h
 | x :: ls, t, hs, h => by
  refine links_in F c ls _ (fun b h => hs b (List.mem_cons_of_mem _ h)) ?_
  dsimp only
  split
  ·rename_i ha
   have hx := hs x (List.mem_cons_self ..)
   have h1 := c.link x hx ha
   obtain ⟨⟨f0, _⟩, ⟨t0, _⟩, _⟩ := F.link x hx
   intro j
   rw [rise_getD]
   split
   ·rename_i e
    have h3 := (h x.frm.toNat).2
    have h4 := h x.to.toNat
    rw [Int.toNat_of_nonneg f0] at h3
    rw [e.1]
    rw [Int.toNat_of_nonneg t0] at h4 ⊢
    exact ⟨Int.le_trans h4.1 (Int.le_max_left _ _), Int.max_le.2 ⟨h4.2, by omega⟩⟩
   ·exact h j
  ·exact h
theorem start_in {m : MachP} {a : HandP} {depth : Int} {f : Int → Int} (F : Fit m a) (hd : 0 ≤ depth) (c : Clo m a depth f) : In0 f (startR m a depth) :=
 press_in F hd c _ _ (fun _ h => h) fun j => by rw [repl_getD]; exact ⟨Int.le_refl _, c.zero j (by omega)⟩
theorem sweep_in {m : MachP} {a : HandP} {depth : Int} {f : Int → Int} {t : List Int} (F : Fit m a) (c : Clo m a depth f) (h : In0 f t) : ∀ k, In0 f (sweepN m a t k)
 | 0 => h
 | k + 1 => links_in F c _ _ (fun _ h => h) (sweep_in F c h k)
theorem press_reach {bs : List Int} {depth : Int} {b : Int} : ∀ (hb t : List Int), b ∈ hb → (bs.getD b.toNat 0).toNat < t.length → (pressR bs depth hb t).getD (bs.getD b.toNat 0).toNat 0 = depth := by
 have keep : ∀ (hb t : List Int) (r : Nat), r < t.length → t.getD r 0 = depth → (pressR bs depth hb t).getD r 0 = depth := by
  intro hb
  induction hb with
  | nil => intro t r _ h; exact h
  | cons x hb ih =>
   intro t r hr h
   refine ih _ r (by rw [List.length_set]; exact hr) ?_
   rw [set_getD]
   split
   ·rfl
   ·exact h
 intro hb
 induction hb with
 | nil => intro t h; exact absurd h List.not_mem_nil
 | cons x hb ih =>
  intro t h hl
  rcases List.mem_cons.1 h with rfl | h
  ·refine keep hb _ _ (by rw [List.length_set]; exact hl) ?_
   rw [set_getD, if_pos ⟨rfl, hl⟩]
  ·exact ih _ h (by rw [List.length_set]; exact hl)
theorem link_reach {on : List Int} {l : LinkP} (ha : active on l = true) : ∀ (ls : List LinkP) (t : List Int), l ∈ ls → l.to.toNat < t.length → t.getD l.frm.toNat 0 - l.lag ≤ (linkM on ls t).getD l.to.toNat 0
 | [], _, h, _ => absurd h List.not_mem_nil
 | x :: ls, t, h, hl => by
  have i1 := link_inc on t x
  rcases List.mem_cons.1 h with rfl | h
  ·have i2 := (foldl_inc (link_inc on) ls (if active on l then rise t l.to.toNat (t.getD l.frm.toNat 0 - l.lag) else t)).2 l.to.toNat
   refine Int.le_trans ?_ i2
   rw [if_pos ha, rise_getD, if_pos ⟨rfl, hl⟩]
   exact Int.le_max_right _ _
  ·refine Int.le_trans ?_ (link_reach ha ls (if active on x then rise t x.to.toNat (t.getD x.frm.toNat 0 - x.lag) else t) h (by rw [← i1.1]; exact hl))
   have := i1.2 l.frm.toNat
   omega
theorem count_le {α : Type} {p q : α → Bool} : ∀ {l : List α}, (∀ x ∈ l, p x = true → q x = true) → l.countP p ≤ l.countP q
 | [], _ => Nat.le_refl _
 | x :: l, h => by
  have ih := count_le (l := l) fun y hy => h y (List.mem_cons_of_mem _ hy)
  have hx := h x (List.mem_cons_self ..)
  rw [List.countP_cons, List.countP_cons]
  by_cases e : p x = true
  ·rw [if_pos e, if_pos (hx e)]; omega
  ·rw [if_neg e]; omega
theorem count_lt {α : Type} {p q : α → Bool} {z : α} (hp : p z = false) (hq : q z = true) : ∀ {l : List α}, (∀ x ∈ l, p x = true → q x = true) → z ∈ l → l.countP p < l.countP q
 | x :: l, h, hz => by
  have hl := fun y hy => h y (List.mem_cons_of_mem _ hy)
  rw [List.countP_cons, List.countP_cons]
  rcases List.mem_cons.1 hz with rfl | hz
  ·have := count_le hl
   rw [if_neg (by rw [hp]; decide), if_pos hq]
   omega
  ·have ih := count_lt hp hq hl hz
   have hx := h x (List.mem_cons_self ..)
   by_cases e : p x = true
   ·rw [if_pos e, if_pos (hx e)]; omega
   ·rw [if_neg e]; omega
theorem most_val {m : MachP} {a : HandP} {r : Int} {t : Int → Int} : ∀ {k : Nat}, k ≤ m.links.length → mostN m a r t k = downN m a r a.buttons.length ∨ ∃ (i : Nat) (h : i < m.links.length), m.links[i].to = r ∧ active a.on m.links[i] = true ∧ mostN m a r t k = t m.links[i].frm - m.links[i].lag
 | 0, _ => .inl rfl
 | k + 1, hk => by
  have ih := most_val (m := m) (a := a) (r := r) (t := t) (k := k) (by omega)
  unfold mostN
  rw [List.getElem?_eq_getElem (by omega : k < m.links.length)]
  simp only
  split
  ·rename_i e
   rcases Int.le_total (mostN m a r t k) (t m.links[k].frm - m.links[k].lag) with h | h
   ·rw [Int.max_eq_right h]
    exact .inr ⟨k, by omega, e.1, e.2, rfl⟩
   ·rw [Int.max_eq_left h]
    exact ih
  ·exact ih
def rankF (m : MachP) (f : Int → Int) (r : Int) : Nat := (List.range m.rods.toNat).countP fun j : Nat => decide (f r < f (j : Int))
theorem sweep_ge {m : MachP} {a : HandP} (M : MOK m) (F : Fit m a) : ∀ (k : Nat) (r : Int), 0 ≤ r → r < m.rods → rankF m (turnF m a m.travel) r ≤ k → turnF m a m.travel r ≤ (sweepN m a (startR m a m.travel) k).getD r.toNat 0
 | k, r, h0, h1, hk => by
  have tr := M.travel
  have td : 0 ≤ m.travel := by omega
  have hT := turn_most F td h0
  have mono : ∀ k, (startR m a m.travel).getD r.toNat 0 ≤ (sweepN m a (startR m a m.travel) k).getD r.toNat 0 := by
   intro k
   induction k with
   | zero => exact Int.le_refl _
   | succ k ih => exact Int.le_trans ih ((foldl_inc (link_inc a.on) m.links (sweepN m a (startR m a m.travel) k)).2 r.toNat)
  rcases most_val (m := m) (a := a) (r := r) (t := turnF m a m.travel) (Nat.le_refl _) with e | ⟨i, hi, e1, e2, e3⟩
  ·rcases down_val (m := m) (a := a) (r := r) (Nat.le_refl _) with ⟨h, _⟩ | ⟨h, i, hi, _, e'⟩
   ·rw [hT, e, h]
    exact ((sweep_in F (turned_clo F td) (start_in F td (turned_clo F td)) k) r.toNat).1
   ·refine Int.le_trans ?_ (mono k)
    have hp := press_reach (bs := m.buttons) (depth := m.travel) a.buttons (List.replicate m.rods.toNat 0) (List.getElem_mem hi) (by rw [e', List.length_replicate]; omega)
    rw [e'] at hp
    rw [hT, e, h]
    exact Int.le_of_eq hp.symm
  ·obtain ⟨⟨f0, f1⟩, ⟨t0, t1⟩, ne, _, lg⟩ := M.link _ (List.getElem_mem hi)
   have hlt : turnF m a m.travel r < turnF m a m.travel m.links[i].frm := by omega
   have hrk : rankF m (turnF m a m.travel) m.links[i].frm < rankF m (turnF m a m.travel) r := by
    refine count_lt (z := m.links[i].frm.toNat) ?_ ?_ (fun x _ h => ?_) (List.mem_range.2 (by omega))
    ·rw [Int.toNat_of_nonneg f0]; exact decide_eq_false (Int.lt_irrefl _)
    ·rw [Int.toNat_of_nonneg f0]; exact decide_eq_true hlt
    ·have := of_decide_eq_true h
     exact decide_eq_true (by omega)
   cases k with
   | zero => omega
   | succ k =>
    have ih := sweep_ge M F k m.links[i].frm f0 f1 (by omega)
    have hl := link_reach e2 m.links (sweepN m a (startR m a m.travel) k) (List.getElem_mem hi) (by rw [sweep_len, start_len]; omega)
    rw [e1] at hl
    show _ ≤ (linkM a.on m.links (sweepN m a (startR m a m.travel) k)).getD r.toNat 0
    omega
def turnsR (m : MachP) (a : HandP) (depth : Int) : List Int := sweepN m a (startR m a depth) m.rods.toNat
theorem turnsR_len (m : MachP) (a : HandP) (depth : Int) : (turnsR m a depth).length = m.rods.toNat := by rw [turnsR, sweep_len, start_len]
theorem turnsR_getD {m : MachP} {a : HandP} (M : MOK m) (F : Fit m a) {r : Int} (h0 : 0 ≤ r) (h1 : r < m.rods) : (turnsR m a m.travel).getD r.toNat 0 = turnF m a m.travel r := by
 have tr := M.travel
 have td : 0 ≤ m.travel := by omega
 have u := (sweep_in F (turned_clo F td) (start_in F td (turned_clo F td)) m.rods.toNat) r.toNat
 rw [Int.toNat_of_nonneg h0] at u
 refine Int.le_antisymm u.2 (sweep_ge M F m.rods.toNat r h0 h1 ?_)
 have := List.countP_le_length (p := fun j : Nat => decide (turnF m a m.travel r < turnF m a m.travel (j : Int))) (l := List.range m.rods.toNat)
 rw [List.length_range] at this
 exact this
theorem pinsR {t t' : List Int} : ∀ (ps : List PinP) (l : List Int), (∀ p ∈ ps, t.getD p.rod.toNat 0 = t'.getD p.rod.toNat 0) → ps.foldl (pinS t) l = ps.foldl (pinS t') l
 | [], _, _ => rfl
 | p :: ps, l, h => by
  rw [List.foldl_cons, List.foldl_cons, show pinS t l p = pinS t' l p by unfold pinS; rw [h p (List.mem_cons_self ..)]]
  exact pinsR ps _ fun q hq => h q (List.mem_cons_of_mem _ hq)
theorem liftsR {m : MachP} {a : HandP} (M : MOK m) (F : Fit m a) : liftedM m (turnsR m a m.travel) = liftedM m (turnedM m a m.travel) :=
 pinsR m.pins _ fun p hp => turnsR_getD M F (M.pin p hp).1.1 (M.pin p hp).1.2
theorem turnsR_bd {m : MachP} {a : HandP} {d : Int} (F : Fit m a) (hd : 0 ≤ d) (k : Nat) : Bd d (sweepN m a (startR m a d) k) := fun j => by
 have h := (sweep_in F (turned_clo F hd) (start_in F hd (turned_clo F hd)) k) j
 exact ⟨h.1, Int.le_trans h.2 (turnF_bd F hd j).2⟩
end Go.Rd
namespace Go.Proofs.YthphpbdmbmiaiaaGreat
open Go Go.HL Go.Proofs Go.Wx Go.Rd
section
variable [Lvl]
set_option maxRecDepth 100000
theorem among_ok (n lo hi : Int) (h : AH) : FnT Tryz.prog 85 #[.int .i64 n, .int .i64 lo, .int .i64 hi] h (fun v _ => v = .bool (inM n lo hi)) := by
 refine wM Tryz.func85 rfl Tryz.ntmps85 rfl ?_
 refine qE ?_
 refine qB rfl ?_
 refine qA (qD (v := .bool _) rfl) ?_
 refine qE ?_
 refine qB rfl ?_
 refine qA (qC (v := .int .i64 _) rfl) ?_
 refine qA (qC (v := .int .i64 _) rfl) ?_
 refine qA (qN (v := .bool _) rfl) ?_
 refine qA (qC (v := .bool _) rfl) ?_
 refine guard_case rfl (fun hg1 => ?_) (fun hg1 => ?_)
 ·replace hg1 : _ = true := hg1
  refine qA (qC (v := .int .i64 _) rfl) ?_
  refine qG rfl hg1 ?_
  refine qA (qC (v := .int .i64 _) rfl) ?_
  refine qG rfl hg1 ?_
  refine qA (qN (v := .bool _) rfl) ?_
  refine qA (wP rfl hg1 (v := .bool _) rfl) ?_
  refine qA (qD (v := .bool _) rfl) ?_
  refine qZ ?_
  refine qP (vs := [_]) Tryz.results85 ⟨qM rfl rfl, trivial⟩ fun V => ?_
  exact ⟨(qX V), boolE (by simp_all [inM] <;> omega)⟩
 ·replace hg1 : _ = false := hg1
  refine qK rfl hg1 ?_
  refine qK rfl hg1 ?_
  refine qA (wT rfl hg1 (v := .bool _) rfl) ?_
  refine qA (qD (v := .bool _) rfl) ?_
  refine qZ ?_
  refine qP (vs := [_]) Tryz.results85 ⟨qM rfl rfl, trivial⟩ fun V => ?_
  exact ⟨(qX V), boolE (by simp_all [inM] <;> omega)⟩
theorem among_yes (n lo hi : Int) (hn : lo ≤ n ∧ n ≤ hi) (h : AH) : FnT Tryz.prog 85 #[.int .i64 n, .int .i64 lo, .int .i64 hi] h (fun v _ => v = .bool true) :=
 (among_ok n lo hi h).mono (fun v _ e => ⟨e.1, e.2.trans (boolE (inM_iff.2 hn))⟩) fun _ _ e => e
theorem checkSetR_ok (l : List Int) (below : Int) (hb : -100 ≤ below ∧ below ≤ 2 ^ 40) (A : Option Addr) (c : Nat) (h : AH) (R : Row h 1 intC A l) (hl : l.length < 2 ^ 40) :
  FnT Tryz.prog 63 #[.slice A l.length c, .int .i64 below] h (fun v _ => v = .int .i64 (checkSetM l below)) := by
 refine wM Tryz.func63 rfl Tryz.ntmps63 rfl ?_
 refine qE ?_
 refine qB rfl ?_
 refine qA (qD (v := .int .i64 _) rfl) ?_
 refine qE ?_
 refine qE ?_
 refine qB rfl ?_
 refine qA (qD (v := .int .i64 _) rfl) ?_
 refine qQ ?_
 refine zP [4, 5, 6, 7, 8, 9, 10, 11, 12, 13, 14, 15, 16, 17, 18, 19, 20, 21, 22, 23, 24, 25, 26, 27, 28, 29, 30, 31, 32, 33] 0 (α := Nat) (fun k => [(5, .int .i64 k)]) (fun k => _) (fun k h_k => k ≤ l.length ∧ firstErr (setAt below l) ((List.range l.length).take k) = 0) (fun k => l.length - k) (0) ⟨rfl, trivial⟩ (rfl) (⟨Nat.zero_le _, rfl⟩) ?_
 rintro k T1 h_k E_k J_k
 refine qT [] rfl ?_
 obtain ⟨K1, K2⟩ := J_k
 refine qE ?_
 refine qE ?_
 refine qB rfl ?_
 refine qA (qC (v := .int .i64 _) rfl) ?_
 refine qA (qC (v := .slice _ _ _) rfl) ?_
 refine qA (wK rfl rfl) ?_
 refine qA (qN (v := .bool _) rfl) ?_
 refine qU rfl (fun hk => ?_) (fun hk => ?_)
 ·skip
  have hkl : k < l.length := ltI hk
  have hkr : k < (List.range l.length).length := by simpa using hkl
  have hre : (List.range l.length)[k] = k := by simp
  obtain ⟨g, off, hA, hc⟩ := (R.ext E_k).at (by omega) hkl
  refine qR ?_
  refine qE ?_
  refine qQ ?_
  refine qE ?_
  refine qE ?_
  refine qB rfl ?_
  refine qA (qC (v := .slice _ _ _) rfl) ?_
  refine qA (qC (v := .int .i64 _) rfl) ?_
  refine qA (wG rfl hA rfl rfl rfl (by omega) (by omega)) ?_
  refine wS (v := .int .i64 _) rfl rfl ((hc) 0 _ rfl) ?_
  refine qA (qC (v := .int .i64 _) rfl) ?_
  refine qA (qS rfl (by omega)) ?_
  refine wJ (caps := []) (vs := [.int .i64 _, .int .i64 _, .int .i64 _]) rfl rfl rfl (among_ok _ _ _ h_k) ?_
  rintro _ h1 E1 rfl
  refine qA (qN (v := .bool _) rfl) ?_
  refine qU rfl (fun hw => ?_) (fun hw => ?_)
  ·skip
   refine qE ?_
   refine qB rfl ?_
   refine qA (qD (v := .int .i64 _) rfl) ?_
   refine qZ ?_
   refine qP (vs := [_]) Tryz.results63 ⟨qM rfl rfl, trivial⟩ fun V => ?_
   refine ⟨(zT (zT E_k E1) (qX V)), intE ?_⟩
   rw [checkSetM, zM hkr K2 (by rw [hre, setAt, getD_get hkl, if_pos hw]; decide), hre, setAt, getD_get hkl, if_pos hw]
  ·skip
   rcases Nat.eq_zero_or_pos k with h0 | h0
   ·subst h0
    refine qR ?_
    refine qE ?_
    refine xp_dw [] rfl rfl rfl ?_
    refine qI (i := 0) rfl (by decide +kernel) (qC (v := .int .i64 _) rfl) ?_
    refine qI (i := 1) rfl (by decide +kernel) (qN (v := .bool _) rfl) ?_
    refine qI (i := 2) rfl (by decide +kernel) (qC (v := .bool _) rfl) ?_
    refine dw_skip (i := 3) rfl (by decide +kernel) rfl rfl ?_
    refine dw_skip (i := 4) rfl (by decide +kernel) rfl rfl ?_
    refine dw_skip (i := 5) rfl (by decide +kernel) rfl rfl ?_
    refine dw_skip (i := 6) rfl (by decide +kernel) rfl rfl ?_
    refine dw_skip (i := 7) rfl (by decide +kernel) rfl rfl ?_
    refine dw_skip (i := 8) rfl (by decide +kernel) rfl rfl ?_
    refine dw_skip (i := 9) rfl (by decide +kernel) rfl rfl ?_
    refine dw_skip (i := 10) rfl (by decide +kernel) rfl rfl ?_
    refine dw_skip (i := 11) rfl (by decide +kernel) rfl rfl ?_
    refine dw_skip (i := 12) rfl (by decide +kernel) rfl rfl ?_
    refine qI (i := 13) rfl (by decide +kernel) (wT rfl rfl (v := .bool _) rfl) ?_
    refine zN rfl ?_
    refine zJ rfl (rfl) ?_
    refine qR ?_
    refine qB rfl ?_
    refine qA (qC (v := .int .i64 _) rfl) ?_
    refine qA (qS rfl (by omega)) ?_
    refine qA (qD (v := .int .i64 _) rfl) ?_
    refine ⟨1, ⟨rfl, trivial⟩, rfl, rfl, (zT E_k E1), fun h3 E3 => ⟨hkl, firstErr_go hkr K2 (by rw [hre, setAt, getD_get hkl, if_neg (by simpa using hw), if_neg (by omega)])⟩, by first | omega | (dsimp only; omega), ?_⟩
    repeat (first | exact qW _ _ _ | refine wD (by decide) ?_ | refine qV rfl ?_ | refine wE rfl ?_)
   ·skip
    have hd : decide ((k : Int) > 0) = true := by simp; omega
    have hkp : k - 1 < l.length := by omega
    obtain ⟨g2, off2, hA2, hc2⟩ := (R.ext (zT E_k E1)).at (by omega) hkp
    obtain ⟨g3, off3, hA3, hc4⟩ := (R.ext (zT E_k E1)).at (by omega) hkl
    have e2 : ((k : Int) - 1).toNat = k - 1 := by omega
    have hc3 : Cells h1 g2 (off2 + ((k : Int) - 1).toNat * 1) (intC l[k - 1]) := by rw [e2]; exact hc2
    refine qR ?_
    refine qE ?_
    refine xp_dw [] rfl rfl rfl ?_
    refine qI (i := 0) rfl (by decide +kernel) (qC (v := .int .i64 _) rfl) ?_
    refine qI (i := 1) rfl (by decide +kernel) (qN (v := .bool _) rfl) ?_
    refine qI (i := 2) rfl (by decide +kernel) (qC (v := .bool _) rfl) ?_
    refine zC (i := 3) rfl (by decide +kernel) rfl hd (qC (v := .slice _ _ _) rfl) ?_
    refine zC (i := 4) rfl (by decide +kernel) rfl hd (qC (v := .int .i64 _) rfl) ?_
    refine zC (i := 5) rfl (by decide +kernel) rfl hd (wG rfl hA3 rfl rfl rfl (by omega) (by omega)) ?_
    refine dw_loadG (i := 6) rfl (by decide +kernel) rfl hd ?_
    refine wS (v := .int .i64 _) rfl rfl ((hc4) 0 _ rfl) ?_
    refine zC (i := 7) rfl (by decide +kernel) rfl hd (qC (v := .slice _ _ _) rfl) ?_
    refine zC (i := 8) rfl (by decide +kernel) rfl hd (qC (v := .int .i64 _) rfl) ?_
    refine zC (i := 9) rfl (by decide +kernel) rfl hd (qS rfl (by omega)) ?_
    refine zC (i := 10) rfl (by decide +kernel) rfl hd (wG rfl hA2 rfl rfl rfl (by omega) (by omega)) ?_
    refine dw_loadG (i := 11) rfl (by decide +kernel) rfl hd ?_
    refine wS (v := .int .i64 _) rfl rfl ((hc3) 0 _ rfl) ?_
    refine zC (i := 12) rfl (by decide +kernel) rfl hd (qN (v := .bool _) rfl) ?_
    refine qI (i := 13) rfl (by decide +kernel) (wP rfl hd (v := .bool _) rfl) ?_
    refine zN rfl ?_
    refine qU rfl (fun hq => ?_) (fun hq => ?_)
    ·skip
     refine qE ?_
     refine qB rfl ?_
     refine qA (qD (v := .int .i64 _) rfl) ?_
     refine qZ ?_
     refine qP (vs := [_]) Tryz.results63 ⟨qM rfl rfl, trivial⟩ fun V => ?_
     refine ⟨(zT (zT E_k E1) (qX V)), intE ?_⟩
     have e5 : setAt below l k = 5 := by rw [setAt, getD_get hkl, getD_get hkp, if_neg (by simpa using hw), if_pos ⟨h0, by simpa using hq⟩]
     rw [checkSetM, zM hkr K2 (by rw [hre, e5]; decide), hre, e5]
    ·skip
     refine qR ?_
     refine qB rfl ?_
     refine qA (qC (v := .int .i64 _) rfl) ?_
     refine qA (qS rfl (by omega)) ?_
     refine qA (qD (v := .int .i64 _) rfl) ?_
     refine ⟨k + 1, ⟨rfl, trivial⟩, rfl, rfl, (zT E_k E1), fun h3 E3 => ⟨hkl, firstErr_go hkr K2 (by rw [hre, setAt, getD_get hkl, getD_get hkp, if_neg (by simpa using hw), if_neg (by rintro ⟨_, h5⟩; simp at hq; omega)])⟩, by first | omega | (dsimp only; omega), ?_⟩
     repeat (first | exact qW _ _ _ | refine wD (by decide) ?_ | refine qV rfl ?_ | refine wE rfl ?_)
 ·skip
  have hke : k = l.length := by have := geI hk; omega
  refine wV ?_
  refine qE ?_
  refine qB rfl ?_
  refine qA (qD (v := .int .i64 _) rfl) ?_
  refine qZ ?_
  refine qP (vs := [_]) Tryz.results63 ⟨qM rfl rfl, trivial⟩ fun V => ?_
  refine ⟨(zT E_k (qX V)), intE ?_⟩
  rw [List.take_of_length_le (by simp [hke])] at K2
  exact K2.symm
theorem checkParts_ok (m : MachP) (M : MOK m) (AB AQ AL AW : Option Addr) (cB cQ cL cW : Nat) (h : AH) (R : MachR h AB AQ AL AW m) :
  FnT Tryz.prog 86 #[machV AB AQ AL AW cB cQ cL cW m] h (fun v _ => v = .int .i64 0) := by
 have mbl := M.bl
 have mpl := M.pl
 have mll := M.ll
 have mrd := M.rods
 have mlv := M.levers
 have mrg := M.regs
 have mtr := M.travel
 refine wM Tryz.func86 rfl Tryz.ntmps86 rfl ?_
 refine qE ?_
 refine qB rfl ?_
 refine zG (v := .agg #[.int .i64 _, .int .i64 _, .int .i64 _, .int .i64 _, .int .i64 _, .slice _ _ _, .slice _ _ _, .slice _ _ _, .slice _ _ _]) (cs := [_, _, _, _, _, _, _, _, _]) rfl rfl fun b1 hb1 => ?_
 refine qL [_] rfl ?_
 refine qA (qD (v := .int .i64 _) rfl) ?_
 refine qE ?_
 refine qE ?_
 refine qB rfl ?_
 refine qA (qF rfl rfl rfl rfl 5 rfl) ?_
 refine qJ 0 (v := .slice _ _ _) rfl rfl rfl rfl ?_
 refine qA (wK rfl rfl) ?_
 refine qA (qN (v := .bool _) rfl) ?_
 refine zJ rfl (decide_eq_false (by omega)) ?_
 refine qR ?_
 refine qE ?_
 refine qE ?_
 refine qB rfl ?_
 refine qA (qD (v := .int .i64 _) rfl) ?_
 refine qQ ?_
 refine zP [2, 3, 12, 13, 14, 15, 16, 17, 18, 19, 20, 21, 22, 23, 24, 25, 26, 27, 28] 1 (α := Nat) (fun k => [(3, .int .i64 k)]) (fun k => _) (fun k h_k => k ≤ m.buttons.length) (fun k => m.buttons.length - k) (0) ⟨rfl, trivial⟩ (rfl) (Nat.zero_le _) ?_
 rintro k T1 h_k E_k J_k
 refine qT [_] rfl ?_
 refine qE ?_
 refine qE ?_
 refine qB rfl ?_
 refine qA (qC (v := .int .i64 _) rfl) ?_
 refine qA (qF rfl rfl rfl rfl 5 rfl) ?_
 refine qJ 0 (v := .slice _ _ _) rfl rfl rfl rfl ?_
 refine qA (wK rfl rfl) ?_
 refine qA (qN (v := .bool _) rfl) ?_
 refine qU rfl (fun hk => ?_) (fun hk => ?_)
 ·skip
  have hkl : k < m.buttons.length := ltI hk
  obtain ⟨g, off, hA, hc⟩ := (R.b.ext E_k).at (by omega) hkl
  have hb := M.btn _ (List.getElem_mem hkl)
  refine qR ?_
  refine qE ?_
  refine qQ ?_
  refine qE ?_
  refine xp_dw [] rfl rfl rfl ?_
  refine qI (i := 0) rfl (by decide +kernel) (qF rfl rfl rfl rfl 5 rfl) ?_
  refine wH (i := 1) rfl (by decide +kernel) ?_
  refine qJ 0 (v := .slice _ _ _) rfl rfl rfl rfl ?_
  refine qI (i := 2) rfl (by decide +kernel) (qC (v := .int .i64 _) rfl) ?_
  refine qI (i := 3) rfl (by decide +kernel) (wG rfl hA rfl rfl rfl (by omega) (by omega)) ?_
  refine wH (i := 4) rfl (by decide +kernel) ?_
  refine wS (v := .int .i64 _) rfl rfl ((hc) 0 _ rfl) ?_
  refine qI (i := 5) rfl (by decide +kernel) (qF rfl rfl rfl rfl 0 rfl) ?_
  refine wH (i := 6) rfl (by decide +kernel) ?_
  refine qJ 0 (v := .int .i64 _) rfl rfl rfl rfl ?_
  refine qI (i := 7) rfl (by decide +kernel) (qS rfl (by omega)) ?_
  refine zA (i := 8) rfl (by decide +kernel) (by decide +kernel) ?_
  refine wJ (caps := []) (vs := [.int .i64 _, .int .i64 _, .int .i64 _]) rfl rfl rfl (among_yes _ _ _ (by omega) h_k) ?_
  rintro _ h1 E1 rfl
  refine qI (i := 9) rfl (by decide +kernel) (qN (v := .bool _) rfl) ?_
  refine zN rfl ?_
  refine zJ rfl (rfl) ?_
  refine qR ?_
  refine qB rfl ?_
  refine qA (qC (v := .int .i64 _) rfl) ?_
  refine qA (qS rfl (by omega)) ?_
  refine qA (qD (v := .int .i64 _) rfl) ?_
  refine ⟨k + 1, ⟨rfl, trivial⟩, rfl, rfl, (zT E_k E1), fun h3 E3 => hkl, by first | omega | (dsimp only; omega), ?_⟩
  repeat (first | exact qW _ _ _ | refine wD (by decide) ?_ | refine qV rfl ?_ | refine wE rfl ?_)
 ·skip
  refine wV ?_
  refine qE ?_
  refine qE ?_
  refine qB rfl ?_
  refine qA (qF rfl rfl rfl rfl 6 rfl) ?_
  refine qJ 0 (v := .slice _ _ _) rfl rfl rfl rfl ?_
  refine qA (wK rfl rfl) ?_
  refine qA (qN (v := .bool _) rfl) ?_
  refine zJ rfl (decide_eq_false (by omega)) ?_
  refine qR ?_
  refine qE ?_
  refine qE ?_
  refine qB rfl ?_
  refine qA (qD (v := .int .i64 _) rfl) ?_
  refine qQ ?_
  refine zP [2, 4, 5, 33, 34, 35, 36, 37, 38, 39, 40, 41, 42, 43, 44, 45, 46, 47, 48, 49, 50, 51, 52, 53, 54, 55, 56, 57, 58, 59, 60, 61, 62, 63, 64, 65, 66] 1 (α := Nat) (fun j => [(4, .int .i64 j)]) (fun j => _) (fun j h_j => j ≤ m.pins.length) (fun j => m.pins.length - j) (0) ⟨rfl, trivial⟩ (rfl) (Nat.zero_le _) ?_
  rintro j T2 h_j E_j J_j
  refine qT [_] rfl ?_
  refine qE ?_
  refine qE ?_
  refine qB rfl ?_
  refine qA (qC (v := .int .i64 _) rfl) ?_
  refine qA (qF rfl rfl rfl rfl 6 rfl) ?_
  refine qJ 0 (v := .slice _ _ _) rfl rfl rfl rfl ?_
  refine qA (wK rfl rfl) ?_
  refine qA (qN (v := .bool _) rfl) ?_
  refine qU rfl (fun hj => ?_) (fun hj => ?_)
  ·skip
   have hjl : j < m.pins.length := ltI hj
   obtain ⟨g, off, hA, hc⟩ := (R.q.ext (zT E_k E_j)).at (by omega) hjl
   obtain ⟨p1, p2, p3⟩ := M.pin _ (List.getElem_mem hjl)
   refine qR ?_
   refine qE ?_
   refine qQ ?_
   refine qE ?_
   refine qB rfl ?_
   refine qA (qF rfl rfl rfl rfl 6 rfl) ?_
   refine qJ 0 (v := .slice _ _ _) rfl rfl rfl rfl ?_
   refine qA (qC (v := .int .i64 _) rfl) ?_
   refine qA (wG rfl hA rfl rfl rfl (by omega) (by omega)) ?_
   refine zK rfl rfl rfl rfl (hc) ?_
   refine zF (cs := [_, _, _]) rfl rfl fun b5 hb5 => ?_
   refine qL [_, _] rfl ?_
   refine wI 1 (v := .agg #[.int .i64 _, .int .i64 _, .int .i64 _]) (vs := [_, _, _]) (c' := [_, _, _]) rfl rfl rfl rfl rfl rfl rfl rfl rfl ?_
   refine qL [_, _] rfl ?_
   refine qE ?_
   refine qE ?_
   refine qB rfl ?_
   refine qA (qF rfl rfl rfl rfl 0 rfl) ?_
   refine qJ 1 (v := .int .i64 _) rfl rfl rfl rfl ?_
   refine qA (qF rfl rfl rfl rfl 0 rfl) ?_
   refine qJ 0 (v := .int .i64 _) rfl rfl rfl rfl ?_
   refine qA (qS rfl (by omega)) ?_
   refine wJ (caps := []) (vs := [.int .i64 _, .int .i64 _, .int .i64 _]) rfl rfl rfl (among_yes _ _ _ (by omega) h_j) ?_
   rintro _ h1 E1 rfl
   refine qA (qN (v := .bool _) rfl) ?_
   refine qA (qC (v := .bool _) rfl) ?_
   refine qG rfl rfl ?_
   refine qA (qF rfl rfl rfl rfl 1 rfl) ?_
   refine qG rfl rfl ?_
   refine qJ 1 (v := .int .i64 _) rfl rfl rfl rfl ?_
   refine qG rfl rfl ?_
   refine qA (qF rfl rfl rfl rfl 1 rfl) ?_
   refine qG rfl rfl ?_
   refine qJ 0 (v := .int .i64 _) rfl rfl rfl rfl ?_
   refine qG rfl rfl ?_
   refine qA (qS rfl (by omega)) ?_
   refine qG rfl rfl ?_
   refine wJ (caps := []) (vs := [.int .i64 _, .int .i64 _, .int .i64 _]) rfl rfl rfl (among_yes _ _ _ (by omega) h1) ?_
   rintro _ h2 E2 rfl
   refine qG rfl rfl ?_
   refine qA (qN (v := .bool _) rfl) ?_
   refine qA (wT rfl rfl (v := .bool _) rfl) ?_
   refine zJ rfl (rfl) ?_
   refine qR ?_
   refine qE ?_
   refine qB rfl ?_
   refine qA (qF rfl rfl rfl rfl 2 rfl) ?_
   refine qJ 1 (v := .int .i64 _) rfl rfl rfl rfl ?_
   refine qA (qF rfl rfl rfl rfl 3 rfl) ?_
   refine qJ 0 (v := .int .i64 _) rfl rfl rfl rfl ?_
   refine wJ (caps := []) (vs := [.int .i64 _, .int .i64 _, .int .i64 _]) rfl rfl rfl (among_yes _ _ _ (by omega) h2) ?_
   rintro _ h3 E3 rfl
   refine qA (qN (v := .bool _) rfl) ?_
   refine zJ rfl (rfl) ?_
   refine qR ?_
   refine qB rfl ?_
   refine qA (qC (v := .int .i64 _) rfl) ?_
   refine qA (qS rfl (by omega)) ?_
   refine qA (qD (v := .int .i64 _) rfl) ?_
   refine ⟨j + 1, ⟨rfl, trivial⟩, rfl, rfl, (zT (zT (zT E_j E1) E2) E3), fun h3 E3 => hjl, by first | omega | (dsimp only; omega), ?_⟩
   repeat (first | exact qW _ _ _ | refine wD (by decide) ?_ | refine qV rfl ?_ | refine wE rfl ?_)
  ·skip
   refine wV ?_
   refine qE ?_
   refine qE ?_
   refine qB rfl ?_
   refine qA (qF rfl rfl rfl rfl 7 rfl) ?_
   refine qJ 0 (v := .slice _ _ _) rfl rfl rfl rfl ?_
   refine qA (wK rfl rfl) ?_
   refine qA (qN (v := .bool _) rfl) ?_
   refine zJ rfl (decide_eq_false (by omega)) ?_
   refine qR ?_
   refine qE ?_
   refine qE ?_
   refine qB rfl ?_
   refine qA (qD (v := .int .i64 _) rfl) ?_
   refine qQ ?_
   refine zP [2, 6, 7, 71, 72, 73, 74, 75, 76, 77, 78, 79, 80, 81, 82, 83, 84, 85, 86, 87, 88, 89, 90, 91, 92, 93, 94, 95, 96, 97, 98, 99, 100, 101, 102, 103, 104, 105, 106, 107, 108, 109, 110, 111, 112, 113, 114, 115, 116] 1 (α := Nat) (fun i => [(6, .int .i64 i)]) (fun i => _) (fun i h_i => i ≤ m.links.length) (fun i => m.links.length - i) (0) ⟨rfl, trivial⟩ (rfl) (Nat.zero_le _) ?_
   rintro i T3 h_i E_i J_i
   refine qT [_] rfl ?_
   refine qE ?_
   refine qE ?_
   refine qB rfl ?_
   refine qA (qC (v := .int .i64 _) rfl) ?_
   refine qA (qF rfl rfl rfl rfl 7 rfl) ?_
   refine qJ 0 (v := .slice _ _ _) rfl rfl rfl rfl ?_
   refine qA (wK rfl rfl) ?_
   refine qA (qN (v := .bool _) rfl) ?_
   refine qU rfl (fun hi => ?_) (fun hi => ?_)
   ·skip
    have hil : i < m.links.length := ltI hi
    obtain ⟨g, off, hA, hc⟩ := (R.l.ext (zT (zT E_k E_j) E_i)).at (by omega) hil
    obtain ⟨p1, p2, p3, p4, p5⟩ := M.link _ (List.getElem_mem hil)
    refine qR ?_
    refine qE ?_
    refine qQ ?_
    refine qE ?_
    refine qB rfl ?_
    refine qA (qF rfl rfl rfl rfl 7 rfl) ?_
    refine qJ 0 (v := .slice _ _ _) rfl rfl rfl rfl ?_
    refine qA (qC (v := .int .i64 _) rfl) ?_
    refine qA (wG rfl hA rfl rfl rfl (by omega) (by omega)) ?_
    refine zK rfl rfl rfl rfl (hc) ?_
    refine zF (cs := [_, _, _, _]) rfl rfl fun b7 hb7 => ?_
    refine qL [_, _] rfl ?_
    refine wI 1 (v := .agg #[.int .i64 _, .int .i64 _, .int .i64 _, .int .i64 _]) (vs := [_, _, _, _]) (c' := [_, _, _, _]) rfl rfl rfl rfl rfl rfl rfl rfl rfl ?_
    refine qL [_, _] rfl ?_
    refine qE ?_
    refine qE ?_
    refine qB rfl ?_
    refine qA (qF rfl rfl rfl rfl 0 rfl) ?_
    refine qJ 1 (v := .int .i64 _) rfl rfl rfl rfl ?_
    refine qA (qF rfl rfl rfl rfl 0 rfl) ?_
    refine qJ 0 (v := .int .i64 _) rfl rfl rfl rfl ?_
    refine qA (qS rfl (by omega)) ?_
    refine wJ (caps := []) (vs := [.int .i64 _, .int .i64 _, .int .i64 _]) rfl rfl rfl (among_yes _ _ _ (by omega) h_i) ?_
    rintro _ h1 E1 rfl
    refine qA (qN (v := .bool _) rfl) ?_
    refine qA (qC (v := .bool _) rfl) ?_
    refine qG rfl rfl ?_
    refine qA (qF rfl rfl rfl rfl 1 rfl) ?_
    refine qG rfl rfl ?_
    refine qJ 1 (v := .int .i64 _) rfl rfl rfl rfl ?_
    refine qG rfl rfl ?_
    refine qA (qF rfl rfl rfl rfl 0 rfl) ?_
    refine qG rfl rfl ?_
    refine qJ 0 (v := .int .i64 _) rfl rfl rfl rfl ?_
    refine qG rfl rfl ?_
    refine qA (qS rfl (by omega)) ?_
    refine qG rfl rfl ?_
    refine wJ (caps := []) (vs := [.int .i64 _, .int .i64 _, .int .i64 _]) rfl rfl rfl (among_yes _ _ _ (by omega) h1) ?_
    rintro _ h2 E2 rfl
    refine qG rfl rfl ?_
    refine qA (qN (v := .bool _) rfl) ?_
    refine qA (wT rfl rfl (v := .bool _) rfl) ?_
    refine zJ rfl (rfl) ?_
    refine qR ?_
    refine qE ?_
    refine qE ?_
    refine qB rfl ?_
    refine qA (qF rfl rfl rfl rfl 0 rfl) ?_
    refine qJ 1 (v := .int .i64 _) rfl rfl rfl rfl ?_
    refine qA (qF rfl rfl rfl rfl 1 rfl) ?_
    refine qJ 1 (v := .int .i64 _) rfl rfl rfl rfl ?_
    refine qA (qN (v := .bool _) rfl) ?_
    refine zJ rfl (by simpa using p3) ?_
    refine qR ?_
    refine qE ?_
    refine qE ?_
    refine qB rfl ?_
    refine qA (qF rfl rfl rfl rfl 2 rfl) ?_
    refine qJ 1 (v := .int .i64 _) rfl rfl rfl rfl ?_
    refine qA (qF rfl rfl rfl rfl 2 rfl) ?_
    refine qJ 0 (v := .int .i64 _) rfl rfl rfl rfl ?_
    refine qA (qS rfl (by omega)) ?_
    refine wJ (caps := []) (vs := [.int .i64 _, .int .i64 _, .int .i64 _]) rfl rfl rfl (among_yes _ _ _ (by omega) h2) ?_
    rintro _ h3 E3 rfl
    refine qA (qN (v := .bool _) rfl) ?_
    refine zJ rfl (rfl) ?_
    refine qR ?_
    refine qE ?_
    refine qB rfl ?_
    refine qA (qF rfl rfl rfl rfl 3 rfl) ?_
    refine qJ 1 (v := .int .i64 _) rfl rfl rfl rfl ?_
    refine qA (qF rfl rfl rfl rfl 3 rfl) ?_
    refine qJ 0 (v := .int .i64 _) rfl rfl rfl rfl ?_
    refine wJ (caps := []) (vs := [.int .i64 _, .int .i64 _, .int .i64 _]) rfl rfl rfl (among_yes _ _ _ (by omega) h3) ?_
    rintro _ h4 E4 rfl
    refine qA (qN (v := .bool _) rfl) ?_
    refine zJ rfl (rfl) ?_
    refine qR ?_
    refine qB rfl ?_
    refine qA (qC (v := .int .i64 _) rfl) ?_
    refine qA (qS rfl (by omega)) ?_
    refine qA (qD (v := .int .i64 _) rfl) ?_
    refine ⟨i + 1, ⟨rfl, trivial⟩, rfl, rfl, (zT (zT (zT (zT E_i E1) E2) E3) E4), fun h3 E3 => hil, by first | omega | (dsimp only; omega), ?_⟩
    repeat (first | exact qW _ _ _ | refine wD (by decide) ?_ | refine qV rfl ?_ | refine wE rfl ?_)
   ·skip
    refine wV ?_
    refine qE ?_
    refine qB rfl ?_
    refine qA (qD (v := .int .i64 _) rfl) ?_
    refine qZ ?_
    refine qP (vs := [_]) Tryz.results86 ⟨qM rfl rfl, trivial⟩ fun V => ?_
    exact ⟨(zT (zT (zT E_k E_j) E_i) (qX V)), rfl⟩
theorem CheckR_ok (m : MachP) (M : MOK m) (AB AQ AL AW : Option Addr) (cB cQ cL cW : Nat) (h : AH) (R : MachR h AB AQ AL AW m) :
  FnT Tryz.prog 62 #[machV AB AQ AL AW cB cQ cL cW m] h (fun v _ => v = .int .i64 0) := by
 have mrd := M.rods
 have mlv := M.levers
 have mrg := M.regs
 have mtr := M.travel
 have mop := M.opn
 have mwl := M.wl
 refine wM Tryz.func62 rfl Tryz.ntmps62 rfl ?_
 refine qE ?_
 refine qB rfl ?_
 refine zG (v := .agg #[.int .i64 _, .int .i64 _, .int .i64 _, .int .i64 _, .int .i64 _, .slice _ _ _, .slice _ _ _, .slice _ _ _, .slice _ _ _]) (cs := [_, _, _, _, _, _, _, _, _]) rfl rfl fun b1 hb1 => ?_
 refine qL [_] rfl ?_
 refine qA (qD (v := .int .i64 _) rfl) ?_
 refine qE ?_
 refine qE ?_
 refine qB rfl ?_
 refine qA (qF rfl rfl rfl rfl 0 rfl) ?_
 refine qJ 0 (v := .int .i64 _) rfl rfl rfl rfl ?_
 refine wJ (caps := []) (vs := [.int .i64 _, .int .i64 _, .int .i64 _]) rfl rfl rfl (among_yes _ _ _ (by omega) h) ?_
 rintro _ h1 E1 rfl
 refine qA (qN (v := .bool _) rfl) ?_
 refine qA (qC (v := .bool _) rfl) ?_
 refine qG rfl rfl ?_
 refine qA (qF rfl rfl rfl rfl 1 rfl) ?_
 refine qG rfl rfl ?_
 refine qJ 0 (v := .int .i64 _) rfl rfl rfl rfl ?_
 refine qG rfl rfl ?_
 refine wJ (caps := []) (vs := [.int .i64 _, .int .i64 _, .int .i64 _]) rfl rfl rfl (among_yes _ _ _ (by omega) h1) ?_
 rintro _ h2 E2 rfl
 refine qG rfl rfl ?_
 refine qA (qN (v := .bool _) rfl) ?_
 refine qA (wT rfl rfl (v := .bool _) rfl) ?_
 refine qA (qC (v := .bool _) rfl) ?_
 refine qG rfl rfl ?_
 refine qA (qF rfl rfl rfl rfl 2 rfl) ?_
 refine qG rfl rfl ?_
 refine qJ 0 (v := .int .i64 _) rfl rfl rfl rfl ?_
 refine qG rfl rfl ?_
 refine wJ (caps := []) (vs := [.int .i64 _, .int .i64 _, .int .i64 _]) rfl rfl rfl (among_yes _ _ _ (by omega) h2) ?_
 rintro _ h3 E3 rfl
 refine qG rfl rfl ?_
 refine qA (qN (v := .bool _) rfl) ?_
 refine qA (wT rfl rfl (v := .bool _) rfl) ?_
 refine qA (qC (v := .bool _) rfl) ?_
 refine qG rfl rfl ?_
 refine qA (qF rfl rfl rfl rfl 3 rfl) ?_
 refine qG rfl rfl ?_
 refine qJ 0 (v := .int .i64 _) rfl rfl rfl rfl ?_
 refine qG rfl rfl ?_
 refine wJ (caps := []) (vs := [.int .i64 _, .int .i64 _, .int .i64 _]) rfl rfl rfl (among_yes _ _ _ (by omega) h3) ?_
 rintro _ h4 E4 rfl
 refine qG rfl rfl ?_
 refine qA (qN (v := .bool _) rfl) ?_
 refine qA (wT rfl rfl (v := .bool _) rfl) ?_
 refine qA (qC (v := .bool _) rfl) ?_
 refine qG rfl rfl ?_
 refine qA (qF rfl rfl rfl rfl 4 rfl) ?_
 refine qG rfl rfl ?_
 refine qJ 0 (v := .int .i64 _) rfl rfl rfl rfl ?_
 refine qG rfl rfl ?_
 refine qA (qF rfl rfl rfl rfl 3 rfl) ?_
 refine qG rfl rfl ?_
 refine qJ 0 (v := .int .i64 _) rfl rfl rfl rfl ?_
 refine qG rfl rfl ?_
 refine wJ (caps := []) (vs := [.int .i64 _, .int .i64 _, .int .i64 _]) rfl rfl rfl (among_yes _ _ _ (by omega) h4) ?_
 rintro _ h5 E5 rfl
 refine qG rfl rfl ?_
 refine qA (qN (v := .bool _) rfl) ?_
 refine qA (wT rfl rfl (v := .bool _) rfl) ?_
 refine zJ rfl (rfl) ?_
 refine qR ?_
 refine qE ?_
 refine qE ?_
 refine qB rfl ?_
 refine qY 0 (vs := [.int .i64 _, .int .i64 _, .int .i64 _, .int .i64 _, .int .i64 _, .slice _ _ _, .slice _ _ _, .slice _ _ _, .slice _ _ _]) rfl rfl rfl rfl rfl ?_
 refine wJ (caps := []) (vs := [.agg #[.int .i64 _, .int .i64 _, .int .i64 _, .int .i64 _, .int .i64 _, .slice _ _ _, .slice _ _ _, .slice _ _ _, .slice _ _ _]]) rfl rfl rfl (checkParts_ok m M AB AQ AL AW cB cQ cL cW h5 (R.ext (zT (zT (zT (zT E1 E2) E3) E4) E5))) ?_
 rintro _ h6 E6 rfl
 refine qA (qD (v := .int .i64 _) rfl) ?_
 refine qE ?_
 refine qB rfl ?_
 refine qA (qC (v := .int .i64 _) rfl) ?_
 refine qA (qN (v := .bool _) rfl) ?_
 refine zJ rfl (rfl) ?_
 refine qR ?_
 refine qE ?_
 refine qE ?_
 refine qB rfl ?_
 refine qA (qF rfl rfl rfl rfl 8 rfl) ?_
 refine qJ 0 (v := .slice _ _ _) rfl rfl rfl rfl ?_
 refine qA (wK rfl rfl) ?_
 refine qA (qF rfl rfl rfl rfl 1 rfl) ?_
 refine qJ 0 (v := .int .i64 _) rfl rfl rfl rfl ?_
 refine qA (qN (v := .bool _) rfl) ?_
 refine zJ rfl (by simp [mwl]) ?_
 refine qR ?_
 refine qE ?_
 refine qE ?_
 refine qB rfl ?_
 refine qA (qD (v := .int .i64 _) rfl) ?_
 refine qQ ?_
 refine zP [2, 4, 46, 47, 48, 49, 50, 51, 52, 53, 54, 55, 56, 57, 58, 59] 1 (α := Nat) (fun k => [(4, .int .i64 k)]) (fun k => _) (fun k h_k => k ≤ m.weights.length) (fun k => m.weights.length - k) (0) ⟨rfl, trivial⟩ (rfl) (Nat.zero_le _) ?_
 rintro k T1 h_k E_k J_k
 refine qT [_] rfl ?_
 refine qE ?_
 refine qE ?_
 refine qB rfl ?_
 refine qA (qC (v := .int .i64 _) rfl) ?_
 refine qA (qF rfl rfl rfl rfl 8 rfl) ?_
 refine qJ 0 (v := .slice _ _ _) rfl rfl rfl rfl ?_
 refine qA (wK rfl rfl) ?_
 refine qA (qN (v := .bool _) rfl) ?_
 refine qU rfl (fun hk => ?_) (fun hk => ?_)
 ·skip
  have hkl : k < m.weights.length := ltI hk
  obtain ⟨g, off, hA, hc⟩ := (R.w.ext (zT (zT (zT (zT (zT (zT E1 E2) E3) E4) E5) E6) E_k)).at (by omega) hkl
  have hb := M.wt _ (List.getElem_mem hkl)
  refine qR ?_
  refine qE ?_
  refine qQ ?_
  refine qE ?_
  refine qB rfl ?_
  refine qA (qF rfl rfl rfl rfl 8 rfl) ?_
  refine qJ 0 (v := .slice _ _ _) rfl rfl rfl rfl ?_
  refine qA (qC (v := .int .i64 _) rfl) ?_
  refine qA (wG rfl hA rfl rfl rfl (by omega) (by omega)) ?_
  refine wS (v := .int .i64 _) rfl rfl ((hc) 0 _ rfl) ?_
  refine wJ (caps := []) (vs := [.int .i64 _, .int .i64 _, .int .i64 _]) rfl rfl rfl (among_yes _ _ _ (by omega) h_k) ?_
  rintro _ h7 E7 rfl
  refine qA (qN (v := .bool _) rfl) ?_
  refine zJ rfl (rfl) ?_
  refine qR ?_
  refine qB rfl ?_
  refine qA (qC (v := .int .i64 _) rfl) ?_
  refine qA (qS rfl (by omega)) ?_
  refine qA (qD (v := .int .i64 _) rfl) ?_
  refine ⟨k + 1, ⟨rfl, trivial⟩, rfl, rfl, (zT E_k E7), fun h3 E3 => hkl, by first | omega | (dsimp only; omega), ?_⟩
  repeat (first | exact qW _ _ _ | refine wD (by decide) ?_ | refine qV rfl ?_ | refine wE rfl ?_)
 ·skip
  refine wV ?_
  refine qE ?_
  refine qB rfl ?_
  refine qA (qD (v := .int .i64 _) rfl) ?_
  refine qZ ?_
  refine qP (vs := [_]) Tryz.results62 ⟨qM rfl rfl, trivial⟩ fun V => ?_
  exact ⟨(zT (zT (zT (zT (zT (zT (zT E1 E2) E3) E4) E5) E6) E_k) (qX V)), rfl⟩
theorem checkHandR_ok (m : MachP) (M : MOK m) (a : HandP) (AB AQ AL AW HA OA : Option Addr) (cB cQ cL cW cH cO : Nat) (h : AH) (RH : HandR h HA OA a) (h1 : a.buttons.length < 2 ^ 40) (h2 : a.on.length < 2 ^ 40) :
  FnT Tryz.prog 64 #[machV AB AQ AL AW cB cQ cL cW m, handV HA OA cH cO a] h (fun v _ => v = .int .i64 (checkHandM m a)) := by
 have hbl := M.bl
 have hrg := M.regs
 have hc' := chk_of M
 refine wM Tryz.func64 rfl Tryz.ntmps64 rfl ?_
 refine qE ?_
 refine qB rfl ?_
 refine zG (v := .agg #[.int .i64 _, .int .i64 _, .int .i64 _, .int .i64 _, .int .i64 _, .slice _ _ _, .slice _ _ _, .slice _ _ _, .slice _ _ _]) (cs := [_, _, _, _, _, _, _, _, _]) rfl rfl fun b2 hb2 => ?_
 refine qL [_] rfl ?_
 refine zG (v := .agg #[.slice _ _ _, .slice _ _ _]) (cs := [_, _]) rfl rfl fun b3 hb3 => ?_
 refine qL [_, _] rfl ?_
 refine qA (qD (v := .int .i64 _) rfl) ?_
 refine qE ?_
 refine qE ?_
 refine qB rfl ?_
 refine qA (qF rfl rfl rfl rfl 0 rfl) ?_
 refine qJ 1 (v := .slice _ _ _) rfl rfl rfl rfl ?_
 refine qA (qF rfl rfl rfl rfl 5 rfl) ?_
 refine qJ 0 (v := .slice _ _ _) rfl rfl rfl rfl ?_
 refine qA (wK rfl rfl) ?_
 refine wJ (caps := []) (vs := [.slice _ _ _, .int .i64 _]) rfl rfl rfl (checkSetR_ok a.buttons m.buttons.length (by omega) HA cH h (RH.b.ext (Ext.refl _)) h1) ?_
 rintro _ h4 E4 rfl
 refine qA (qD (v := .int .i64 _) rfl) ?_
 refine qE ?_
 refine qB rfl ?_
 refine qA (qC (v := .int .i64 _) rfl) ?_
 refine qA (qN (v := .bool _) rfl) ?_
 refine qU rfl (fun hs => ?_) (fun hs => ?_)
 ·skip
  have hs' : checkSetM a.buttons m.buttons.length ≠ 0 := by simpa using hs
  refine qE ?_
  refine qB rfl ?_
  refine qA (qC (v := .int .i64 _) rfl) ?_
  refine qA (qD (v := .int .i64 _) rfl) ?_
  refine qZ ?_
  refine qP (vs := [_]) Tryz.results64 ⟨qM rfl rfl, trivial⟩ fun V => ?_
  exact ⟨(zT E4 (qX V)), intE (by rw [checkHandM, if_neg (by simp [hc']), if_pos hs'])⟩
 ·skip
  have hs' : checkSetM a.buttons m.buttons.length = 0 := by simpa using hs
  refine qR ?_
  refine qE ?_
  refine qB rfl ?_
  refine qA (qF rfl rfl rfl rfl 1 rfl) ?_
  refine qJ 1 (v := .slice _ _ _) rfl rfl rfl rfl ?_
  refine qA (qF rfl rfl rfl rfl 2 rfl) ?_
  refine qJ 0 (v := .int .i64 _) rfl rfl rfl rfl ?_
  refine wJ (caps := []) (vs := [.slice _ _ _, .int .i64 _]) rfl rfl rfl (checkSetR_ok a.on m.regs (by omega) OA cO h4 (RH.o.ext E4) h2) ?_
  rintro _ h5 E5 rfl
  refine qA (qD (v := .int .i64 _) rfl) ?_
  refine qZ ?_
  refine qP (vs := [_]) Tryz.results64 ⟨qM rfl rfl, trivial⟩ fun V => ?_
  exact ⟨(zT (zT E4 E5) (qX V)), intE (by rw [checkHandM, if_neg (by simp [hc']), if_neg (by simp [hs'])])⟩
end
end Go.Proofs.YthphpbdmbmiaiaaGreat
namespace Go.Proofs.YthphpbdmbmiaiaaGreat
open Go Go.HL Go.Proofs Go.Wx Go.Rd
section
variable [Lvl]
set_option maxRecDepth 100000
end
end Go.Proofs.YthphpbdmbmiaiaaGreat
namespace Go.Proofs.YthphpbdmbmiaiaaGreat
open Go Go.HL Go.Proofs Go.Wx Go.Rd
section
variable [Lvl]
set_option maxRecDepth 100000
theorem sounds_bit {m : MachP} {a : HandP} {d : Int} {v : Nat} (hv : (v : Int) < m.levers) : (soundsM m a d).testBit v = decide (m.opn ≤ liftF m a d v) := by
 unfold soundsM liftF
 rw [maskOf_bit, decide_eq_true (by omega : v < m.levers.toNat), Bool.true_and, Int.toNat_natCast]
end
end Go.Proofs.YthphpbdmbmiaiaaGreat
namespace Go.Proofs.YthphpbdmbmiaiaaGreat
open Go Go.HL Go.Proofs Go.Wx Go.Rd
section
variable [Lvl]
set_option maxRecDepth 100000
theorem wrL_set {t : List Int} {i o : Nat} {x : Int} (ho : o = i) : wrL (tV t) o [.int .i64 x] = tV (t.set i x) := by
 subst ho
 simp [wrL, List.map_set]
theorem hasR_ok (l : List Int) (n : Int) (A : Option Addr) (c : Nat) (h : AH) (R : Row h 1 intC A l) (hl : l.length < 2 ^ 40) :
  FnT Tryz.prog 50 #[.slice A l.length c, .int .i64 n] h (fun v _ => v = .bool (l.contains n)) := by
 refine wM Tryz.func50 rfl Tryz.ntmps50 rfl ?_
 refine qE ?_
 refine qB rfl ?_
 refine qA (qD (v := .bool _) rfl) ?_
 refine qE ?_
 refine qE ?_
 refine qB rfl ?_
 refine qA (qD (v := .int .i64 _) rfl) ?_
 refine qQ ?_
 refine zP [4, 5, 6, 7, 8, 9, 10, 11, 12, 13, 14, 15, 16, 17] 0 (α := Nat) (fun k => [(5, .int .i64 k)]) (fun k => _) (fun k h_k => k ≤ l.length ∧ ∀ x ∈ l.take k, x ≠ n) (fun k => l.length - k) (0) ⟨rfl, trivial⟩ (rfl) (⟨Nat.zero_le _, fun x hx => by simp at hx⟩) ?_
 rintro k T1 h_k E_k J_k
 refine qT [] rfl ?_
 obtain ⟨K1, K2⟩ := J_k
 refine qE ?_
 refine qE ?_
 refine qB rfl ?_
 refine qA (qC (v := .int .i64 _) rfl) ?_
 refine qA (qC (v := .slice _ _ _) rfl) ?_
 refine qA (wK rfl rfl) ?_
 refine qA (qN (v := .bool _) rfl) ?_
 refine qU rfl (fun hk => ?_) (fun hk => ?_)
 ·skip
  have hkl : k < l.length := ltI hk
  obtain ⟨g, off, hA, hc⟩ := (R.ext E_k).at (by omega) hkl
  refine qR ?_
  refine qE ?_
  refine qQ ?_
  refine qE ?_
  refine qB rfl ?_
  refine qA (qC (v := .slice _ _ _) rfl) ?_
  refine qA (qC (v := .int .i64 _) rfl) ?_
  refine qA (wG rfl hA rfl rfl rfl (by omega) (by omega)) ?_
  refine wS (v := .int .i64 _) rfl rfl ((hc) 0 _ rfl) ?_
  refine qA (qC (v := .int .i64 _) rfl) ?_
  refine qA (qN (v := .bool _) rfl) ?_
  refine qU rfl (fun he => ?_) (fun he => ?_)
  ·skip
   have he' : l[k] = n := by simpa using he
   refine qE ?_
   refine qB rfl ?_
   refine qA (qD (v := .bool _) rfl) ?_
   refine qZ ?_
   refine qP (vs := [_]) Tryz.results50 ⟨qM rfl rfl, trivial⟩ fun V => ?_
   exact ⟨(zT E_k (qX V)), boolE (by rw [eq_comm, List.contains_iff_mem, ← he']; exact List.getElem_mem hkl)⟩
  ·skip
   have he' : l[k] ≠ n := by simpa using he
   refine qR ?_
   refine qB rfl ?_
   refine qA (qC (v := .int .i64 _) rfl) ?_
   refine qA (qS rfl (by omega)) ?_
   refine qA (qD (v := .int .i64 _) rfl) ?_
   refine ⟨k + 1, ⟨rfl, trivial⟩, rfl, rfl, E_k, fun h3 E3 => ⟨hkl, by rw [take_snoc hkl]; exact mem_one K2 he'⟩, by first | omega | (dsimp only; omega), ?_⟩
   repeat (first | exact qW _ _ _ | refine wD (by decide) ?_ | refine qV rfl ?_ | refine wE rfl ?_)
 ·skip
  have hke : k = l.length := by have := geI hk; omega
  subst hke
  rw [List.take_length] at K2
  refine wV ?_
  refine qE ?_
  refine qB rfl ?_
  refine qA (qD (v := .bool _) rfl) ?_
  refine qZ ?_
  refine qP (vs := [_]) Tryz.results50 ⟨qM rfl rfl, trivial⟩ fun V => ?_
  exact ⟨(zT E_k (qX V)), boolE (by rw [eq_comm, ← Bool.not_eq_true, List.contains_iff_mem]; exact fun hm => K2 n hm rfl)⟩
theorem turnsR_ok (m : MachP) (M : MOK m) (a : HandP) (F : Fit m a) (depth : Int) (hd : 0 ≤ depth ∧ depth ≤ 12) (AB AQ AL AW HA OA : Option Addr) (cB cQ cL cW cH cO : Nat) (h : AH) (RM : MachR h AB AQ AL AW m) (RH : HandR h HA OA a) :
  FnT Tryz.prog 102 #[machV AB AQ AL AW cB cQ cL cW m, handV HA OA cH cO a, .int .i64 depth] h (fun v h' => SlR h' 1 intC (turnsR m a depth) v) := by
 have hrd := M.rods
 have hbl := F.bl
 have hll := F.ll
 have hhl := F.hl
 have hol := F.ol
 have hle : m.rods = ((m.rods.toNat : Nat) : Int) := by omega
 refine wM Tryz.func102 rfl Tryz.ntmps102 rfl ?_
 refine qE ?_
 refine qB rfl ?_
 refine zG (v := machV AB AQ AL AW cB cQ cL cW m) (cs := [_, _, _, _, _, _, _, _, _]) rfl rfl fun b2 hb2 => ?_
 refine qL [_] rfl ?_
 refine zG (v := handV HA OA cH cO a) (cs := [_, _]) rfl rfl fun b3 hb3 => ?_
 refine qL [_, _] rfl ?_
 refine qA (qD (v := .slice _ _ _) rfl) ?_
 refine qE ?_
 refine qB rfl ?_
 refine qA (qF rfl rfl rfl rfl 0 rfl) ?_
 refine qJ 0 (v := .int .i64 _) rfl rfl rfl rfl ?_
 refine op_makeSlice (len := m.rods.toNat) (cap := m.rods.toNat) (zc := [.int .i64 0]) rfl rfl hle hle rfl rfl rfl rfl rfl (by omega) (by omega) rfl fun bl hbl => ?_
 refine qL [_, _, _] rfl ?_
 refine qL [_, _, some (bl, .cells (tV (List.replicate m.rods.toNat 0)).toArray 3 (0, 0))] (by rw [← mk_zero]; rfl) ?_
 refine qA (qD (v := .slice _ _ _) rfl) ?_
 refine qE ?_
 refine qE ?_
 refine qB rfl ?_
 refine qA (qD (v := .int .i64 _) rfl) ?_
 refine qQ ?_
 refine zH [8, 15, 16, 17, 18, 19, 20, 21, 22, 23, 24, 25, 26, 27, 28, 29, 30, 31, 32, 33] 3 (α := Nat) (fun k => [(8, .int .i64 k)]) (fun k L => L.set 2 (some (bl, .cells (tV (pressR m.buttons depth (a.buttons.take k) (List.replicate m.rods.toNat 0))).toArray 3 (0, 0)))) (fun k h_k => k ≤ a.buttons.length) (fun k => a.buttons.length - k) (0) ⟨rfl, trivial⟩ (rfl) (Nat.zero_le _) ?_
 rintro k T1 h_k E_k J_k
 refine qT [_, _, _] rfl ?_
 refine qE ?_
 refine qE ?_
 refine qB rfl ?_
 refine qA (qC (v := .int .i64 _) rfl) ?_
 refine qA (qF rfl rfl rfl rfl 0 rfl) ?_
 refine qJ 1 (v := .slice _ _ _) rfl rfl rfl rfl ?_
 refine qA (wK rfl rfl) ?_
 refine qA (qN (v := .bool _) rfl) ?_
 refine qU rfl (fun hk => ?_) (fun hk => ?_)
 ·skip
  have hkl : k < a.buttons.length := ltI hk
  obtain ⟨g, off, hA, hc⟩ := (RH.b.ext E_k).at (by omega) hkl
  have hbk := F.hb _ (List.getElem_mem hkl)
  have hbk2 : a.buttons[k].toNat < m.buttons.length := by omega
  obtain ⟨g2, off2, hA2, hc2⟩ := (RM.b.ext E_k).at (by omega) hbk2
  have hbt := M.btn _ (List.getElem_mem hbk2)
  have hP6 : (tV (pressR m.buttons depth (a.buttons.take k) (List.replicate m.rods.toNat 0))).length = m.rods.toNat := by rw [List.length_map, pressR_len, List.length_replicate]
  refine qR ?_
  refine qE ?_
  refine qQ ?_
  refine xp_dw [] rfl rfl rfl ?_
  refine qI (i := 0) rfl (by decide +kernel) (qC (v := .slice _ _ _) rfl) ?_
  refine qI (i := 1) rfl (by decide +kernel) (qF rfl rfl rfl rfl 5 rfl) ?_
  refine wH (i := 2) rfl (by decide +kernel) ?_
  refine qJ 0 (v := .slice _ _ _) rfl rfl rfl rfl ?_
  refine qI (i := 3) rfl (by decide +kernel) (qF rfl rfl rfl rfl 0 rfl) ?_
  refine wH (i := 4) rfl (by decide +kernel) ?_
  refine qJ 1 (v := .slice _ _ _) rfl rfl rfl rfl ?_
  refine qI (i := 5) rfl (by decide +kernel) (qC (v := .int .i64 _) rfl) ?_
  refine qI (i := 6) rfl (by decide +kernel) (wG rfl hA rfl rfl rfl (by omega) (by omega)) ?_
  refine wH (i := 7) rfl (by decide +kernel) ?_
  refine wS (v := .int .i64 _) rfl rfl ((hc) 0 _ rfl) ?_
  refine qI (i := 8) rfl (by decide +kernel) (wG rfl hA2 rfl rfl rfl (by omega) (by omega)) ?_
  refine wH (i := 9) rfl (by decide +kernel) ?_
  refine wS (v := .int .i64 _) rfl rfl ((hc2) 0 _ rfl) ?_
  refine qI (i := 10) rfl (by decide +kernel) (qC (v := .int .i64 _) rfl) ?_
  refine qI (i := 11) rfl (by decide +kernel) (pv_index (m := 1) rfl rfl rfl rfl (by omega) (by omega)) ?_
  refine zA (i := 12) rfl (by decide +kernel) (by decide +kernel) ?_
  refine wI 2 (m := 1) (v := .int .i64 _) (vs := [.int .i64 depth]) (c' := tV (pressR m.buttons depth (a.buttons.take (k + 1)) (List.replicate m.rods.toNat 0))) rfl rfl rfl rfl rfl rfl (Nat.ble_eq_true_of_le (by rw [hP6]; omega)) rfl (by rw [pressR_take hkl, getD_get hbk2]; exact wrL_set (by omega)) ?_
  refine wY [_, _, _] rfl ?_
  refine zN rfl ?_
  refine qB rfl ?_
  refine qA (qC (v := .int .i64 _) rfl) ?_
  refine qA (qS rfl (by omega)) ?_
  refine qA (qD (v := .int .i64 _) rfl) ?_
  refine ⟨k + 1, ⟨rfl, trivial⟩, rfl, rfl, E_k, fun h3 E3 => hkl, by first | omega | (dsimp only; omega), ?_⟩
  repeat (first | exact qW _ _ _ | refine wD (by decide) ?_ | refine qV rfl ?_ | refine wE rfl ?_)
 ·skip
  have hke : k = a.buttons.length := by have := geI hk; omega
  subst hke
  rw [List.take_length]
  refine wV ?_
  refine qE ?_
  refine qE ?_
  refine qB rfl ?_
  refine qA (qD (v := .int .i64 _) rfl) ?_
  refine qQ ?_
  refine zH [9, 10, 11, 34, 35, 36, 37, 38, 39, 40, 41, 42, 43, 44, 45, 46, 47, 48, 49, 50, 51, 52, 53, 54, 55, 56, 57, 58, 59, 60, 61, 62, 63, 64, 65, 66, 67, 68, 69, 70, 71, 72, 73, 74, 75, 76, 77, 78, 79] 3 (α := Nat) (fun r => [(9, .int .i64 r)]) (fun r L => L.set 2 (some (bl, .cells (tV (sweepN m a (startR m a depth) r)).toArray 3 (0, 0)))) (fun r h_r => r ≤ m.rods.toNat) (fun r => m.rods.toNat - r) (0) ⟨rfl, trivial⟩ (rfl) (Nat.zero_le _) ?_
  rintro r T2 h_r E_r J_r
  refine qT [_, _, _] rfl ?_
  refine qE ?_
  refine qE ?_
  refine qB rfl ?_
  refine qA (qC (v := .int .i64 _) rfl) ?_
  refine qA (qF rfl rfl rfl rfl 0 rfl) ?_
  refine qJ 0 (v := .int .i64 _) rfl rfl rfl rfl ?_
  refine qA (qN (v := .bool _) rfl) ?_
  refine qU rfl (fun hr => ?_) (fun hr => ?_)
  ·skip
   have hrl : r < m.rods.toNat := by have := of_decide_eq_true hr; omega
   obtain ⟨P, hP⟩ : ∃ P, P = sweepN m a (startR m a depth) r := ⟨_, rfl⟩
   have hSt : sweepN m a (startR m a depth) (r + 1) = linkM a.on m.links P := by rw [hP]; rfl
   have hP6 : P.length = m.rods.toNat := by rw [hP, sweep_len, start_len]
   have hPB : Bd depth P := by rw [hP]; exact turnsR_bd F hd.1 r
   rw [← hP]
   refine qR ?_
   refine qE ?_
   refine qQ ?_
   refine qE ?_
   refine qB rfl ?_
   refine qA (qD (v := .int .i64 _) rfl) ?_
   refine qQ ?_
   refine zH [10, 11, 40, 41, 42, 43, 44, 45, 46, 47, 48, 49, 50, 51, 52, 53, 54, 55, 56, 57, 58, 59, 60, 61, 62, 63, 64, 65, 66, 67, 68, 69, 70, 71, 72, 73, 74, 75, 76, 77, 78, 79] 3 (α := Nat) (fun i => [(10, .int .i64 i)]) (fun i L => L.set 2 (some (bl, .cells (tV (linkM a.on (m.links.take i) P)).toArray 3 (0, 0)))) (fun i h_i => i ≤ m.links.length) (fun i => m.links.length - i) (0) ⟨rfl, trivial⟩ (rfl) (Nat.zero_le _) ?_
   rintro i T3 h_i E_i J_i
   refine qT [_, _, _] rfl ?_
   refine qE ?_
   refine qE ?_
   refine qB rfl ?_
   refine qA (qC (v := .int .i64 _) rfl) ?_
   refine qA (qF rfl rfl rfl rfl 7 rfl) ?_
   refine qJ 0 (v := .slice _ _ _) rfl rfl rfl rfl ?_
   refine qA (wK rfl rfl) ?_
   refine qA (qN (v := .bool _) rfl) ?_
   refine qU rfl (fun hi => ?_) (fun hi => ?_)
   ·skip
    have hil : i < m.links.length := ltI hi
    obtain ⟨g, off, hA, hc⟩ := (RM.l.ext (zT (zT E_k E_r) E_i)).at (by omega) hil
    obtain ⟨⟨f0, f1⟩, ⟨t0, t1⟩, _, _, g0, g1⟩ := M.link _ (List.getElem_mem hil)
    have mtr := M.travel
    obtain ⟨Z, hZ⟩ : ∃ Z, Z = linkM a.on (m.links.take i) P := ⟨_, rfl⟩
    have hZ6 : Z.length = m.rods.toNat := by rw [hZ, linkR_len, hP6]
    have hT6 : (tV Z).length = m.rods.toNat := by rw [List.length_map, hZ6]
    have hZB : Bd depth Z := by rw [hZ]; exact link_bd _ (fun l hl => F.lag l (take_mem hl)) hPB
    have z1 := hZB m.links[i].frm.toNat
    have z2 := hZB m.links[i].to.toNat
    have hNext := linkM_take (on := a.on) (t := P) hil
    rw [← hZ] at hNext ⊢
    refine qR ?_
    refine qE ?_
    refine qQ ?_
    refine qE ?_
    refine qB rfl ?_
    refine qA (qF rfl rfl rfl rfl 7 rfl) ?_
    refine qJ 0 (v := .slice _ _ _) rfl rfl rfl rfl ?_
    refine qA (qC (v := .int .i64 _) rfl) ?_
    refine qA (wG rfl hA rfl rfl rfl (by omega) (by omega)) ?_
    refine zK rfl rfl rfl rfl (hc) ?_
    refine zF (cs := [_, _, _, _]) rfl rfl fun b11 hb11 => ?_
    refine qL [_, _, _, _] rfl ?_
    refine wI 3 (v := .agg #[.int .i64 _, .int .i64 _, .int .i64 _, .int .i64 _]) (vs := [_, _, _, _]) (c' := [_, _, _, _]) rfl rfl rfl rfl rfl rfl rfl rfl rfl ?_
    refine qL [_, _, _, _] rfl ?_
    refine xp_cutB [52, 53, 54, 55, 56, 57, 58, 59, 60, 61] 4 (α := Unit) (fun u => [(61, .bool (active a.on m.links[i]))]) (fun u L => L) (fun u h_u => True) ?_ ?_
    ·skip
     rcases Bool.eq_false_or_eq_true (decide (m.links[i].reg < 0)) with hr | hr
     ·skip
      refine qB rfl ?_
      refine qA (qF rfl rfl rfl rfl 2 rfl) ?_
      refine qJ 3 (v := .int .i64 _) rfl rfl rfl rfl ?_
      refine qA (qN (v := .bool _) rfl) ?_
      refine qA (qC (v := .bool _) rfl) ?_
      refine qK rfl hr ?_
      refine qK rfl hr ?_
      refine qK rfl hr ?_
      refine qK rfl hr ?_
      refine qK rfl hr ?_
      refine qA (wP rfl hr (v := .bool _) rfl) ?_
      refine ⟨(), ⟨(by show Value.bool _ = _; unfold active; rw [hr]; rfl), trivial⟩, rfl, rfl, (Ext.refl _), fun h3 E3 => by first | trivial | omega | (refine ⟨?_, ?_⟩ <;> omega), ?_⟩
      repeat (first | exact zR _ _ | exact qW _ _ _ | refine wD (by decide) ?_ | refine qV rfl ?_ | refine wE rfl ?_)
     ·skip
      refine qB rfl ?_
      refine qA (qF rfl rfl rfl rfl 2 rfl) ?_
      refine qJ 3 (v := .int .i64 _) rfl rfl rfl rfl ?_
      refine qA (qN (v := .bool _) rfl) ?_
      refine qA (qC (v := .bool _) rfl) ?_
      refine qG rfl hr ?_
      refine qA (qF rfl rfl rfl rfl 1 rfl) ?_
      refine qG rfl hr ?_
      refine qJ 1 (v := .slice _ _ _) rfl rfl rfl rfl ?_
      refine qG rfl hr ?_
      refine qA (qF rfl rfl rfl rfl 2 rfl) ?_
      refine qG rfl hr ?_
      refine qJ 3 (v := .int .i64 _) rfl rfl rfl rfl ?_
      refine qG rfl hr ?_
      refine wJ (caps := []) (vs := [.slice _ _ _, .int .i64 _]) rfl rfl rfl (hasR_ok a.on m.links[i].reg OA cO h_i (RH.o.ext (zT (zT E_k E_r) E_i)) (by omega)) ?_
      rintro _ h1 E1 rfl
      refine qA (wT rfl hr (v := .bool _) rfl) ?_
      refine ⟨(), ⟨(by show Value.bool _ = _; unfold active; rw [hr]; simp), trivial⟩, rfl, rfl, E1, fun h3 E3 => by first | trivial | omega | (refine ⟨?_, ?_⟩ <;> omega), ?_⟩
      repeat (first | exact zR _ _ | exact qW _ _ _ | refine wD (by decide) ?_ | refine qV rfl ?_ | refine wE rfl ?_)
    ·rintro u T4 h_u E_u J_u
     refine qT [_, _, _, _] rfl ?_
     refine qU rfl (fun hact => ?_) (fun hact => ?_)
     ·skip
      rw [if_pos hact] at hNext
      refine xp_dw [] rfl rfl rfl ?_
      refine qI (i := 0) rfl (by decide +kernel) (qC (v := .slice _ _ _) rfl) ?_
      refine qI (i := 1) rfl (by decide +kernel) (qF rfl rfl rfl rfl 1 rfl) ?_
      refine wH (i := 2) rfl (by decide +kernel) ?_
      refine qJ 3 (v := .int .i64 _) rfl rfl rfl rfl ?_
      refine qI (i := 3) rfl (by decide +kernel) (qC (v := .slice _ _ _) rfl) ?_
      refine qI (i := 4) rfl (by decide +kernel) (qF rfl rfl rfl rfl 1 rfl) ?_
      refine wH (i := 5) rfl (by decide +kernel) ?_
      refine qJ 3 (v := .int .i64 _) rfl rfl rfl rfl ?_
      refine qI (i := 6) rfl (by decide +kernel) (pv_index (m := 1) rfl rfl rfl rfl (by omega) (by omega)) ?_
      refine wH (i := 7) rfl (by decide +kernel) ?_
      refine qJ 2 (v := .int .i64 (Z.getD m.links[i].to.toNat 0)) rfl rfl rfl (tV_at (by omega) (by omega)) ?_
      refine qI (i := 8) rfl (by decide +kernel) (qC (v := .slice _ _ _) rfl) ?_
      refine qI (i := 9) rfl (by decide +kernel) (qF rfl rfl rfl rfl 0 rfl) ?_
      refine wH (i := 10) rfl (by decide +kernel) ?_
      refine qJ 3 (v := .int .i64 _) rfl rfl rfl rfl ?_
      refine qI (i := 11) rfl (by decide +kernel) (pv_index (m := 1) rfl rfl rfl rfl (by omega) (by omega)) ?_
      refine wH (i := 12) rfl (by decide +kernel) ?_
      refine qJ 2 (v := .int .i64 (Z.getD m.links[i].frm.toNat 0)) rfl rfl rfl (tV_at (by omega) (by omega)) ?_
      refine qI (i := 13) rfl (by decide +kernel) (qF rfl rfl rfl rfl 3 rfl) ?_
      refine wH (i := 14) rfl (by decide +kernel) ?_
      refine qJ 3 (v := .int .i64 _) rfl rfl rfl rfl ?_
      refine qI (i := 15) rfl (by decide +kernel) (qS rfl (by omega)) ?_
      refine qI (i := 16) rfl (by decide +kernel) (pv_max rfl rfl) ?_
      refine qI (i := 17) rfl (by decide +kernel) (pv_index (m := 1) rfl rfl rfl rfl (by omega) (by omega)) ?_
      refine zA (i := 18) rfl (by decide +kernel) (by decide +kernel) ?_
      refine wI 2 (m := 1) (v := .int .i64 _) (vs := [.int .i64 (max (Z.getD m.links[i].to.toNat 0) (Z.getD m.links[i].frm.toNat 0 - m.links[i].lag))]) (c' := tV (linkM a.on (m.links.take (i + 1)) P)) rfl rfl rfl rfl rfl rfl (Nat.ble_eq_true_of_le (by rw [hT6]; omega)) rfl (by rw [hNext]; exact wrL_rise (by omega) rfl) ?_
      refine wY [_, _, _, _] rfl ?_
      refine zN rfl ?_
      refine qB rfl ?_
      refine qA (qC (v := .int .i64 _) rfl) ?_
      refine qA (qS rfl (by omega)) ?_
      refine qA (qD (v := .int .i64 _) rfl) ?_
      refine ⟨i + 1, ⟨rfl, trivial⟩, rfl, rfl, (zT E_i E_u), fun h3 E3 => hil, by first | omega | (dsimp only; omega), ?_⟩
      repeat (first | exact qW _ _ _ | refine wD (by decide) ?_ | refine qV rfl ?_ | refine wE rfl ?_)
     ·skip
      rw [if_neg (by rw [hact]; decide)] at hNext
      refine qR ?_
      refine qB rfl ?_
      refine qA (qC (v := .int .i64 _) rfl) ?_
      refine qA (qS rfl (by omega)) ?_
      refine qA (qD (v := .int .i64 _) rfl) ?_
      refine ⟨i + 1, ⟨rfl, trivial⟩, rfl, by rw [hNext]; rfl, (zT E_i E_u), fun h3 E3 => hil, by first | omega | (dsimp only; omega), ?_⟩
      repeat (first | exact qW _ _ _ | refine wD (by decide) ?_ | refine qV rfl ?_ | refine wE rfl ?_)
   ·skip
    have hie : i = m.links.length := by have := geI hi; omega
    subst hie
    rw [List.take_length, ← hSt]
    refine wV ?_
    refine qB rfl ?_
    refine qA (qC (v := .int .i64 _) rfl) ?_
    refine qA (qS rfl (by omega)) ?_
    refine qA (qD (v := .int .i64 _) rfl) ?_
    refine ⟨r + 1, ⟨rfl, trivial⟩, rfl, rfl, (zT E_r E_i), fun h3 E3 => hrl, by first | omega | (dsimp only; omega), ?_⟩
    repeat (first | exact qW _ _ _ | refine wD (by decide) ?_ | refine qV rfl ?_ | refine wE rfl ?_)
  ·skip
   have hre : r = m.rods.toNat := by have := of_decide_eq_false hr; omega
   subst hre
   refine wV ?_
   refine qE ?_
   refine qB rfl ?_
   refine qA (qC (v := .slice _ _ _) rfl) ?_
   refine qA (qD (v := .slice _ _ _) rfl) ?_
   refine qZ ?_
   refine qP (vs := [_]) Tryz.results102 ⟨qM rfl rfl, trivial⟩ fun V => ?_
   exact ⟨(zT (zT E_k E_r) (qX V)), slr_own (l := turnsR m a depth) V (i := 2) rfl (turnsR_len m a depth)⟩
theorem liftsR_ok (m : MachP) (M : MOK m) (a : HandP) (F : Fit m a) (depth : Int) (hd : 0 ≤ depth ∧ depth ≤ 12) (AB AQ AL AW HA OA : Option Addr) (cB cQ cL cW cH cO : Nat) (h : AH) (RM : MachR h AB AQ AL AW m) (RH : HandR h HA OA a) :
  FnT Tryz.prog 100 #[machV AB AQ AL AW cB cQ cL cW m, handV HA OA cH cO a, .int .i64 depth] h (fun v h' => SlR h' 1 intC (liftedM m (turnsR m a depth)) v) := by
 have hlv := M.levers
 have hpl := M.pl
 have hrd := M.rods
 have mtr := M.travel
 have hle : m.levers = ((m.levers.toNat : Nat) : Int) := by omega
 obtain ⟨t, ht⟩ : ∃ t, t = turnsR m a depth := ⟨_, rfl⟩
 have htl : t.length = m.rods.toNat := by rw [ht, turnsR_len]
 have htb : Bd depth t := by rw [ht]; exact turnsR_bd F hd.1 _
 have L1 := turnsR_ok m M a F depth hd AB AQ AL AW HA OA cB cQ cL cW cH cO
 rw [← ht] at L1 ⊢
 refine wM Tryz.func100 rfl Tryz.ntmps100 rfl ?_
 refine qE ?_
 refine qB rfl ?_
 refine zG (v := machV AB AQ AL AW cB cQ cL cW m) (cs := [_, _, _, _, _, _, _, _, _]) rfl rfl fun b2 hb2 => ?_
 refine qL [_] rfl ?_
 refine zG (v := handV HA OA cH cO a) (cs := [_, _]) rfl rfl fun b3 hb3 => ?_
 refine qL [_, _] rfl ?_
 refine qA (qD (v := .slice _ _ _) rfl) ?_
 refine qE ?_
 refine qB rfl ?_
 refine qA (qF rfl rfl rfl rfl 1 rfl) ?_
 refine qJ 0 (v := .int .i64 _) rfl rfl rfl rfl ?_
 refine op_makeSlice (len := m.levers.toNat) (cap := m.levers.toNat) (zc := [.int .i64 0]) rfl rfl hle hle rfl rfl rfl rfl rfl (by omega) (by omega) rfl fun bl hbl => ?_
 refine qL [_, _, _] rfl ?_
 refine qL [_, _, some (bl, .cells (tV (List.replicate m.levers.toNat 0)).toArray 3 (0, 0))] (by rw [← mk_zero]; rfl) ?_
 refine qA (qD (v := .slice _ _ _) rfl) ?_
 refine qE ?_
 refine qB rfl ?_
 refine qY 0 (vs := [.int .i64 _, .int .i64 _, .int .i64 _, .int .i64 _, .int .i64 _, .slice _ _ _, .slice _ _ _, .slice _ _ _, .slice _ _ _]) rfl rfl rfl rfl rfl ?_
 refine qY 1 (vs := [.slice _ _ _, .slice _ _ _]) rfl rfl rfl rfl rfl ?_
 refine qA (qC (v := .int .i64 _) rfl) ?_
 refine wJ (caps := []) (vs := [.agg #[.int .i64 _, .int .i64 _, .int .i64 _, .int .i64 _, .int .i64 _, .slice _ _ _, .slice _ _ _, .slice _ _ _, .slice _ _ _], .agg #[.slice _ _ _, .slice _ _ _], .int .i64 _]) rfl rfl rfl (L1 h (RM.ext (Ext.refl _)) (RH.ext (Ext.refl _))) ?_
 rintro _ h1 E1 ⟨TA, cT, rfl, RT⟩
 rw [htl]
 refine qA (qD (v := .slice _ _ _) rfl) ?_
 refine qE ?_
 refine qE ?_
 refine qB rfl ?_
 refine qA (qD (v := .int .i64 _) rfl) ?_
 refine qQ ?_
 refine zH [9, 10, 18, 19, 20, 21, 22, 23, 24, 25, 26, 27, 28, 29, 30, 31, 32, 33, 34, 35, 36, 37, 38, 39, 40, 41, 42, 43, 44, 45, 46, 47] 3 (α := Nat) (fun k => [(9, .int .i64 k)]) (fun k L => L.set 2 (some (bl, .cells (tV ((m.pins.take k).foldl (pinS t) (List.replicate m.levers.toNat 0))).toArray 3 (0, 0)))) (fun k h_k => k ≤ m.pins.length) (fun k => m.pins.length - k) (0) ⟨rfl, trivial⟩ (rfl) (Nat.zero_le _) ?_
 rintro k T1 h_k E_k J_k
 refine qT [_, _, _] rfl ?_
 refine qE ?_
 refine qE ?_
 refine qB rfl ?_
 refine qA (qC (v := .int .i64 _) rfl) ?_
 refine qA (qF rfl rfl rfl rfl 6 rfl) ?_
 refine qJ 0 (v := .slice _ _ _) rfl rfl rfl rfl ?_
 refine qA (wK rfl rfl) ?_
 refine qA (qN (v := .bool _) rfl) ?_
 refine qU rfl (fun hk => ?_) (fun hk => ?_)
 ·skip
  have hkl : k < m.pins.length := ltI hk
  obtain ⟨g, off, hA, hc⟩ := (RM.q.ext (zT E1 E_k)).at (by omega) hkl
  obtain ⟨⟨f0, f1⟩, ⟨t0, t1⟩, g0, g1⟩ := M.pin _ (List.getElem_mem hkl)
  have hrl : m.pins[k].rod.toNat < t.length := by omega
  obtain ⟨g2, off2, hA2, hc2⟩ := (RT.ext E_k).at (by omega) hrl
  obtain ⟨Z, hZ⟩ : ∃ Z, Z = (m.pins.take k).foldl (pinS t) (List.replicate m.levers.toNat 0) := ⟨_, rfl⟩
  have hZl : Z.length = m.levers.toNat := by rw [hZ, pins_len, List.length_replicate]
  have hZV : (tV Z).length = m.levers.toNat := by rw [List.length_map, hZl]
  have hNext := pins_take (t := t) (l0 := List.replicate m.levers.toNat 0) hkl
  have z1 := htb m.pins[k].rod.toNat
  have z2 : t.getD m.pins[k].rod.toNat 0 = t[m.pins[k].rod.toNat] := getD_get hrl
  rw [z2] at z1
  rw [← hZ] at hNext ⊢
  refine qR ?_
  refine qE ?_
  refine qQ ?_
  refine qE ?_
  refine qB rfl ?_
  refine qA (qF rfl rfl rfl rfl 6 rfl) ?_
  refine qJ 0 (v := .slice _ _ _) rfl rfl rfl rfl ?_
  refine qA (qC (v := .int .i64 _) rfl) ?_
  refine qA (wG rfl hA rfl rfl rfl (by omega) (by omega)) ?_
  refine zK rfl rfl rfl rfl (hc) ?_
  refine zF (cs := [_, _, _]) rfl rfl fun b10 hb10 => ?_
  refine qL [_, _, _, _] rfl ?_
  refine wI 3 (v := .agg #[.int .i64 _, .int .i64 _, .int .i64 _]) (vs := [_, _, _]) (c' := [_, _, _]) rfl rfl rfl rfl rfl rfl rfl rfl rfl ?_
  refine qL [_, _, _, _] rfl ?_
  refine xp_dw [] rfl rfl rfl ?_
  refine qI (i := 0) rfl (by decide +kernel) (qC (v := .slice _ _ _) rfl) ?_
  refine qI (i := 1) rfl (by decide +kernel) (qF rfl rfl rfl rfl 1 rfl) ?_
  refine wH (i := 2) rfl (by decide +kernel) ?_
  refine qJ 3 (v := .int .i64 _) rfl rfl rfl rfl ?_
  refine qI (i := 3) rfl (by decide +kernel) (qC (v := .slice _ _ _) rfl) ?_
  refine qI (i := 4) rfl (by decide +kernel) (qF rfl rfl rfl rfl 1 rfl) ?_
  refine wH (i := 5) rfl (by decide +kernel) ?_
  refine qJ 3 (v := .int .i64 _) rfl rfl rfl rfl ?_
  refine qI (i := 6) rfl (by decide +kernel) (pv_index (m := 1) rfl rfl rfl rfl (by omega) (by omega)) ?_
  refine wH (i := 7) rfl (by decide +kernel) ?_
  refine qJ 2 (v := .int .i64 (Z.getD m.pins[k].lever.toNat 0)) rfl rfl rfl (tV_at (by omega) (by omega)) ?_
  refine qI (i := 8) rfl (by decide +kernel) (qC (v := .slice _ _ _) rfl) ?_
  refine qI (i := 9) rfl (by decide +kernel) (qF rfl rfl rfl rfl 0 rfl) ?_
  refine wH (i := 10) rfl (by decide +kernel) ?_
  refine qJ 3 (v := .int .i64 _) rfl rfl rfl rfl ?_
  refine qI (i := 11) rfl (by decide +kernel) (wG rfl hA2 rfl rfl rfl (by omega) (by omega)) ?_
  refine wH (i := 12) rfl (by decide +kernel) ?_
  refine wS (v := .int .i64 _) rfl rfl ((hc2) 0 _ rfl) ?_
  refine qI (i := 13) rfl (by decide +kernel) (qF rfl rfl rfl rfl 2 rfl) ?_
  refine wH (i := 14) rfl (by decide +kernel) ?_
  refine qJ 3 (v := .int .i64 _) rfl rfl rfl rfl ?_
  refine qI (i := 15) rfl (by decide +kernel) (qS rfl (by omega)) ?_
  refine qI (i := 16) rfl (by decide +kernel) (pv_max rfl rfl) ?_
  refine qI (i := 17) rfl (by decide +kernel) (pv_index (m := 1) rfl rfl rfl rfl (by omega) (by omega)) ?_
  refine zA (i := 18) rfl (by decide +kernel) (by decide +kernel) ?_
  refine wI 2 (m := 1) (v := .int .i64 _) (vs := [.int .i64 (max (Z.getD m.pins[k].lever.toNat 0) (t[m.pins[k].rod.toNat] - m.pins[k].lag))]) (c' := tV ((m.pins.take (k + 1)).foldl (pinS t) (List.replicate m.levers.toNat 0))) rfl rfl rfl rfl rfl rfl (Nat.ble_eq_true_of_le (by rw [hZV]; omega)) rfl (by rw [hNext, pinS, z2]; exact wrL_rise (by omega) rfl) ?_
  refine wY [_, _, _, _] rfl ?_
  refine zN rfl ?_
  refine qB rfl ?_
  refine qA (qC (v := .int .i64 _) rfl) ?_
  refine qA (qS rfl (by omega)) ?_
  refine qA (qD (v := .int .i64 _) rfl) ?_
  refine ⟨k + 1, ⟨rfl, trivial⟩, rfl, rfl, E_k, fun h3 E3 => hkl, by first | omega | (dsimp only; omega), ?_⟩
  repeat (first | exact qW _ _ _ | refine wD (by decide) ?_ | refine qV rfl ?_ | refine wE rfl ?_)
 ·skip
  have hke : k = m.pins.length := by have := geI hk; omega
  subst hke
  rw [List.take_length]
  refine wV ?_
  refine qE ?_
  refine qB rfl ?_
  refine qA (qC (v := .slice _ _ _) rfl) ?_
  refine qA (qD (v := .slice _ _ _) rfl) ?_
  refine qZ ?_
  refine qP (vs := [_]) Tryz.results100 ⟨qM rfl rfl, trivial⟩ fun V => ?_
  exact ⟨(zT (zT E1 E_k) (qX V)), slr_own (l := liftedM m t) V (i := 2) rfl (lifted_len m t)⟩
theorem listN_stop {x n : Nat} (hx : x < 2 ^ n) : ∀ k, listN x (n + k) = listN x n
 | 0 => rfl
 | k + 1 => by
  rw [← Nat.add_assoc, listN_succ, if_neg, listN_stop hx k]
  rw [Nat.testBit_lt_two_pow (Nat.lt_of_lt_of_le hx (Nat.pow_le_pow_right (by omega) (by omega)))]
  decide
theorem soundsR_ok (m : MachP) (M : MOK m) (a : HandP) (F : Fit m a) (AB AQ AL AW HA OA : Option Addr) (cB cQ cL cW cH cO : Nat) (h : AH) (RM : MachR h AB AQ AL AW m) (RH : HandR h HA OA a) :
  FnT Tryz.prog 89 #[machV AB AQ AL AW cB cQ cL cW m, handV HA OA cH cO a] h (fun v h' => SlR h' 1 intC (listN (soundsM m a m.travel) 6) v) := by
 have hlv := M.levers
 have mtr := M.travel
 have sl := sounds_lt m a m.travel
 have L1 := liftsR_ok m M a F m.travel (by omega) AB AQ AL AW HA OA cB cQ cL cW cH cO
 rw [liftsR M F] at L1
 obtain ⟨t, ht⟩ : ∃ t, t = liftedM m (turnedM m a m.travel) := ⟨_, rfl⟩
 have htl : t.length = m.levers.toNat := by rw [ht, lifted_len]
 obtain ⟨s, hs⟩ : ∃ s, s = soundsM m a m.travel := ⟨_, rfl⟩
 have hb : ∀ k : Nat, (k : Int) < m.levers → s.testBit k = decide (m.opn ≤ t.getD k 0) := fun k hk => by rw [hs, ht]; exact sounds_bit hk
 rw [← ht] at L1
 rw [← hs] at sl ⊢
 refine wM Tryz.func89 rfl Tryz.ntmps89 rfl ?_
 refine qE ?_
 refine qB rfl ?_
 refine zG (v := .agg #[.int .i64 _, .int .i64 _, .int .i64 _, .int .i64 _, .int .i64 _, .slice _ _ _, .slice _ _ _, .slice _ _ _, .slice _ _ _]) (cs := [_, _, _, _, _, _, _, _, _]) rfl rfl fun b2 hb2 => ?_
 refine qL [_] rfl ?_
 refine zG (v := .agg #[.slice _ _ _, .slice _ _ _]) (cs := [_, _]) rfl rfl fun b3 hb3 => ?_
 refine qL [_, _] rfl ?_
 refine qA (qD (v := .slice _ _ _) rfl) ?_
 refine qE ?_
 refine qB rfl ?_
 refine qY 0 (vs := [.int .i64 _, .int .i64 _, .int .i64 _, .int .i64 _, .int .i64 _, .slice _ _ _, .slice _ _ _, .slice _ _ _, .slice _ _ _]) rfl rfl rfl rfl rfl ?_
 refine qY 1 (vs := [.slice _ _ _, .slice _ _ _]) rfl rfl rfl rfl rfl ?_
 refine qA (qF rfl rfl rfl rfl 3 rfl) ?_
 refine qJ 0 (v := .int .i64 _) rfl rfl rfl rfl ?_
 refine wJ (caps := []) (vs := [.agg #[.int .i64 _, .int .i64 _, .int .i64 _, .int .i64 _, .int .i64 _, .slice _ _ _, .slice _ _ _, .slice _ _ _, .slice _ _ _], .agg #[.slice _ _ _, .slice _ _ _], .int .i64 _]) rfl rfl rfl (L1 h (RM.ext (Ext.refl _)) (RH.ext (Ext.refl _))) ?_
 rintro _ h1 E1 ⟨TA, cT, rfl, RT⟩
 refine qA (qD (v := .slice _ _ _) rfl) ?_
 refine goes_more ?_
 refine qT [_, _, _] rfl ?_
 refine qE ?_
 refine qB rfl ?_
 refine qA (qD (v := .slice _ _ _) rfl) ?_
 refine qE ?_
 refine qE ?_
 refine qB rfl ?_
 refine qA (qD (v := .int .i64 _) rfl) ?_
 refine qQ ?_
 refine zH [6, 7, 13, 14, 15, 16, 17, 18, 19, 20, 21, 22, 23, 24, 25, 26, 27, 28, 29] 3 (α := Nat × Acc) (fun ⟨k, a⟩ => [(7, .int .i64 k), (6, .slice a.A a.n a.c)]) (fun ⟨k, a⟩ L => L.set 2 (a.p)) (fun ⟨k, a⟩ h_k => k ≤ t.length ∧ AccR 3 1 ((listN s k).flatMap intC) a) (fun ⟨k, a⟩ => t.length - k) ((0, acc0)) ⟨rfl, rfl, trivial⟩ (rfl) (⟨Nat.zero_le _, accR0⟩) ?_
 rintro ⟨k, a⟩ T1 h_k E_k J_k
 refine qT [_, _, _] rfl ?_
 obtain ⟨K1, K2⟩ := J_k
 refine qE ?_
 refine qE ?_
 refine qB rfl ?_
 refine qA (qC (v := .int .i64 _) rfl) ?_
 refine qA (qC (v := .slice _ _ _) rfl) ?_
 refine qA (wK rfl rfl) ?_
 refine qA (qN (v := .bool _) rfl) ?_
 refine qU rfl (fun hk => ?_) (fun hk => ?_)
 ·skip
  have hkl : k < t.length := ltI hk
  have hbk := hb k (by omega)
  rw [getD_get hkl] at hbk
  obtain ⟨g, off, hA, hc⟩ := (RT.ext E_k).at (by omega) hkl
  refine qR ?_
  refine qE ?_
  refine qQ ?_
  refine qE ?_
  refine xp_dw [] rfl rfl rfl ?_
  refine qI (i := 0) rfl (by decide +kernel) (qC (v := .slice _ _ _) rfl) ?_
  refine qI (i := 1) rfl (by decide +kernel) (qC (v := .int .i64 _) rfl) ?_
  refine qI (i := 2) rfl (by decide +kernel) (wG rfl hA rfl rfl rfl (by omega) (by omega)) ?_
  refine wH (i := 3) rfl (by decide +kernel) ?_
  refine wS (v := .int .i64 _) rfl rfl ((hc) 0 _ rfl) ?_
  refine qI (i := 4) rfl (by decide +kernel) (qF rfl rfl rfl rfl 4 rfl) ?_
  refine wH (i := 5) rfl (by decide +kernel) ?_
  refine qJ 0 (v := .int .i64 _) rfl rfl rfl rfl ?_
  refine qI (i := 6) rfl (by decide +kernel) (qN (v := .bool _) rfl) ?_
  refine zN rfl ?_
  refine qU rfl (fun ho => ?_) (fun ho => ?_)
  ·skip
   have ho' : m.opn ≤ t[k] := of_decide_eq_true ho
   refine qB rfl ?_
   refine qA (qC (v := .slice _ _ _) rfl) ?_
   refine qA (qC (v := .int .i64 _) rfl) ?_
   refine wA (zc := [_]) (vs := [(0, .int .i64 _)]) (cs := [_]) rfl rfl rfl rfl rfl rfl rfl fun b28 hb28 => ?_
   refine qL [_, _, _, _] rfl ?_
   refine wZ 2 K2 rfl rfl rfl (fun V => rdP V (i := 3) rfl) rfl rfl rfl rfl rfl rfl rfl rfl rfl (by omega) rfl (by rw [wN (m := 1) (fun _ _ => rfl)]; have := listN_len s k; simp; omega) fun a2 h2a E2a ha2 => ?_
   refine qL [_, _, _, _] rfl ?_
   refine qA (qD (v := .slice _ _ _) rfl) ?_
   refine qB rfl ?_
   refine qA (qC (v := .int .i64 _) rfl) ?_
   refine qA (qS rfl (by omega)) ?_
   refine qA (qD (v := .int .i64 _) rfl) ?_
   refine ⟨(k + 1, a2), ⟨rfl, rfl, trivial⟩, rfl, rfl, (zT E_k E2a), fun h3 E3 => ⟨hkl, by rw [listN_succ, if_pos (by rw [hbk]; exact decide_eq_true ho'), List.flatMap_append]; exact ha2⟩, by first | omega | (dsimp only; omega), ?_⟩
   repeat (first | exact qW _ _ _ | refine wD (by decide) ?_ | refine qV rfl ?_ | refine wE rfl ?_)
  ·skip
   have ho' : ¬ m.opn ≤ t[k] := of_decide_eq_false ho
   refine qR ?_
   refine qB rfl ?_
   refine qA (qC (v := .int .i64 _) rfl) ?_
   refine qA (qS rfl (by omega)) ?_
   refine qA (qD (v := .int .i64 _) rfl) ?_
   refine ⟨(k + 1, a), ⟨rfl, rfl, trivial⟩, rfl, rfl, E_k, fun h3 E3 => ⟨hkl, by rw [listN_succ, if_neg (by rw [hbk]; simpa using ho')]; exact K2⟩, by first | omega | (dsimp only; omega), ?_⟩
   repeat (first | exact qW _ _ _ | refine wD (by decide) ?_ | refine qV rfl ?_ | refine wE rfl ?_)
 ·skip
  have hke : k = m.levers.toNat := by have := geI hk; omega
  subst hke
  rw [show listN s 6 = listN s m.levers.toNat by rw [← listN_stop sl (6 - m.levers.toNat)]; congr 1; omega]
  refine wV ?_
  refine qE ?_
  refine qB rfl ?_
  refine qA (qC (v := .slice _ _ _) rfl) ?_
  refine qA (qD (v := .slice _ _ _) rfl) ?_
  refine qZ ?_
  refine qP (vs := [_]) Tryz.results89 ⟨qM rfl rfl, trivial⟩ fun V => ?_
  exact ⟨(zT (zT E1 E_k) (qX V)), AccP.row (i := 2) K2 (by have := listN_len s m.levers.toNat; omega) (fun _ _ => rfl) V rfl⟩
end
end Go.Proofs.YthphpbdmbmiaiaaGreat
namespace Go.Proofs.YthphpbdmbmiaiaaGreat
open Go Go.HL Go.Proofs Go.Wx Go.Rd
section
variable [Lvl]
set_option maxRecDepth 100000
def ChoI (P : List Int → Bool) (n : Nat) (p3 p4 p10 p11 : Nat × Obj) (b6 b7 l : Nat) (t6 t7 : TypeId) (r : Loop) (h0 : AH) (k : Nat) (h : AH) (M : Pv) : Prop :=
 Ext h0 h ∧ (∀ i s, i < k → (setsM n)[i]? = some s → P s = false) ∧
  M = [some p3, some p4, some (b6, .cells #[.slice none 0 0] t6 (0, 0)), some (b7, .cells #[.int .i64 0] t7 (0, 0)), some p10, some p11, some (l, obL r .ready none)]
def ChoF (P : List Int → Bool) (n : Nat) (p3 p4 p10 p11 : Nat × Obj) (b6 b7 l : Nat) (t6 t7 : TypeId) (r : Loop) (h0 : AH) (h : AH) (M : Pv) : Prop :=
 Ext h0 h ∧ ∃ (x : List Int) (BA : Option Addr) (cB : Nat), (setsM n).find? P = some x ∧ Row h 1 intC BA x ∧
  M = [some p3, some p4, some (b6, .cells #[.slice BA x.length cB] t6 (0, 0)), some (b7, .cells #[.int .i64 0] t7 (0, 0)), some p10, some p11, some (l, obL r .done (some .ret))]
theorem ChoI.ext {P : List Int → Bool} {n : Nat} {p3 p4 p10 p11 : Nat × Obj} {b6 b7 l : Nat} {t6 t7 : TypeId} {r : Loop} {h0 h h' : AH} {k : Nat} {M : Pv} (I : ChoI P n p3 p4 p10 p11 b6 b7 l t6 t7 r h0 k h M) (E : Ext h h') : ChoI P n p3 p4 p10 p11 b6 b7 l t6 t7 r h0 k h' M := ⟨I.1.trans E, I.2⟩
theorem ChoF.ext {P : List Int → Bool} {n : Nat} {p3 p4 p10 p11 : Nat × Obj} {b6 b7 l : Nat} {t6 t7 : TypeId} {r : Loop} {h0 h h' : AH} {M : Pv} (I : ChoF P n p3 p4 p10 p11 b6 b7 l t6 t7 r h0 h M) (E : Ext h h') : ChoF P n p3 p4 p10 p11 b6 b7 l t6 t7 r h0 h' M := by
 obtain ⟨E0, x, BA, cB, e1, R1, e2⟩ := I
 exact ⟨E0.trans E, x, BA, cB, e1, R1.ext E, e2⟩
end
end Go.Proofs.YthphpbdmbmiaiaaGreat
namespace Go.Rd
open Go Go.HL Go.Wx
def chosM (n : Nat) : Nat → Nat → List (List Int)
 | 0, _ => [[]]
 | m + 1, a => choP (fun i => (chosM n m (i + 1)).map ((i : Int) :: ·)) a (n - a)
theorem choP_congr {α : Type} {f g : Nat → List α} {a d : Nat} (h : ∀ i, f i = g i) : choP f a d = choP g a d := by rw [funext h]
theorem choM_map {n : Nat} : ∀ (m a : Nat) (l : List Int), choM n m a l = (chosM n m a).map (l ++ ·)
 | 0, a, l => by simp [choM, chosM]
 | m + 1, a, l => by
  rw [choM, chosM, choP_congr fun i => choM_map m (i + 1) (l ++ [(i : Int)])]
  unfold choP
  rw [List.map_flatMap]
  congr 1
  funext i
  rw [List.map_map]
  congr 1
  funext x
  simp
theorem choM_nil (n m a : Nat) : choM n m a [] = chosM n m a := by
 rw [choM_map]
 simp
theorem setsM_eq (n : Nat) : setsM n = choP (fun m => chosM n m 0) 0 (n + 1) := by
 unfold setsM
 rw [choP_congr fun m => choM_nil n m 0]
theorem chos_set {n m a : Nat} {x : List Int} (h : x ∈ chosM n m a) : SetOK x n ∧ x.length = m := by
 rw [← choM_nil] at h
 have := choM_set h (set_nil _) (fun _ h => absurd h List.not_mem_nil)
 simpa using this
theorem choP_len {n m a : Nat} (ih : ∀ a, (chosM n m a).length ≤ 2 ^ (n - a)) : ∀ d, d ≤ n - a → (choP (fun i => (chosM n m (i + 1)).map ((i : Int) :: ·)) a d).length + 2 ^ (n - a - d) ≤ 2 ^ (n - a)
 | 0, _ => by simp [choP_zero]
 | d + 1, hd => by
  have h1 := choP_len (a := a) ih d (by omega)
  have h2 := ih (a + d + 1)
  rw [choP_succ, List.length_append, List.length_map]
  have e : 2 ^ (n - a - d) = 2 ^ (n - a - (d + 1)) + 2 ^ (n - a - (d + 1)) := by
   rw [show n - a - d = (n - a - (d + 1)) + 1 by omega, Nat.pow_succ]; omega
  rw [show n - (a + d + 1) = n - a - (d + 1) by omega] at h2
  omega
theorem chos_len {n : Nat} : ∀ m a, (chosM n m a).length ≤ 2 ^ (n - a)
 | 0, a => by simp [chosM]; exact Nat.one_le_two_pow
 | m + 1, a => by
  have := choP_len (n := n) (m := m) (a := a) (fun a => chos_len m a) (n - a) (Nat.le_refl _)
  rw [chosM]
  exact Nat.le_trans (Nat.le_add_right _ _) this
theorem chos_lt {n m a d : Nat} (hd : d ≤ n - a) : (choP (fun i => (chosM n m (i + 1)).map ((i : Int) :: ·)) a d).length ≤ 2 ^ n := by
 have h1 := choP_len (n := n) (m := m) (a := a) (fun a => chos_len m a) d hd
 have h2 : 2 ^ (n - a) ≤ 2 ^ n := Nat.pow_le_pow_right (by omega) (by omega)
 exact Nat.le_trans (Nat.le_trans (Nat.le_add_right _ _) h1) h2
end Go.Rd
namespace Go.Proofs.YthphpbdmbmiaiaaGreat
open Go Go.HL Go.Proofs Go.Wx Go.Rd
section
variable [Lvl]
set_option maxRecDepth 100000
theorem accR_lit {e : TypeId} {m n b : Nat} {cs : List Value} (h : cs.length = n * m) : AccR e m cs ⟨some (b, .cells cs.toArray e (0, 0)), some ⟨b, 0, none⟩, n, n⟩ :=
 .inr ⟨b, n, n, [], h, rfl, by rw [List.append_nil], by rw [List.append_nil]; exact h⟩
theorem accR_one {e : TypeId} {b : Nat} {v : Value} : AccR e 1 [v] ⟨some (b, .cells [v].toArray e (0, 0)), some ⟨b, 0, none⟩, 1, 1⟩ := accR_lit rfl
theorem els_one {α : Type} {h : AH} {T : AH → α → List Value → Prop} {x : α} {c : List Value} (t : T h x c) : Els h T [x] [c] := by
 have := (Els.nil h T).snoc t
 simpa using this
theorem wp_pubO {P : Program} {n : Nat} {ops : Array Oper} {os : List Oper} {K : Sl → Pv → AH → Prop} {E : Value → Sl → Pv → AH → Prop} {S : Sl} {L : Pv} {h : AH} (i : Nat) {o : Oper} {p : Option (Nat × Obj)} (hg : o.guard = none) (hi : L[i]? = some p) (g : ∀ h', Ext h h' → (∀ b ob, p = some (b, ob) → h' b = some ob) → wpL P n ops (o :: os) K E S (L.set i none) h') : wpL P n ops (o :: os) K E S L h := by
 cases p with
 | none =>
  have e : L.set i none = L := by
   apply List.ext_getElem?
   intro j
   rw [List.getElem?_set]
   by_cases hj : i = j
   ·subst hj
    have hl := (List.getElem?_eq_some_iff.1 hi).1
    simp [hl]
    exact ((List.getElem?_eq_some_iff.1 hi).2).symm
   ·simp [hj]
  have := g h (Ext.refl h) (fun _ _ e => by cases e)
  rw [e] at this
  exact this
 | some q =>
  obtain ⟨b, o⟩ := q
  exact wp_pub i hg hi fun h' E hb => g h' E (fun b' o' e => by cases e; exact hb)
end
end Go.Proofs.YthphpbdmbmiaiaaGreat
namespace Go.Proofs.YthphpbdmbmiaiaaGreat
open Go Go.HL Go.Proofs Go.Wx Go.Rd
section
variable [Lvl]
set_option maxRecDepth 100000
end
end Go.Proofs.YthphpbdmbmiaiaaGreat
namespace Go.Proofs.YthphpbdmbmiaiaaGreat
open Go Go.HL Go.Proofs Go.Wx Go.Rd
section
variable [Lvl]
set_option maxRecDepth 100000
set_option maxHeartbeats 4000000 in
theorem choicesR_ok (n : Nat) (hn : n ≤ 24) : ∀ (many a : Nat) (h : AH) (a' m' : Int), a' = a → m' = many → many ≤ 40 → a ≤ 40 →
  FnT Tryz.prog 72 #[.int .i64 a', .int .i64 n, .int .i64 m'] h (fun v h' => SlL h' (chosM n many a) v) := by
 intro many
 induction many with
 | zero =>
  intro a h a' m' ea em _ _
  subst ea em
  refine wM Tryz.func72 rfl Tryz.ntmps72 rfl ?_
  refine qE ?_
  refine qB rfl ?_
  refine qA (qD (v := .slice _ _ _) rfl) ?_
  refine qE ?_
  refine qE ?_
  refine qB rfl ?_
  refine qA (qC (v := .int .i64 _) rfl) ?_
  refine qA (qN (v := .bool _) rfl) ?_
  refine xp_condT rfl (rfl) ?_
  refine qE ?_
  refine qB rfl ?_
  refine wA (zc := [_]) (vs := [(0, .slice _ _ _)]) (cs := [_]) rfl rfl rfl rfl rfl rfl rfl fun b13 hb13 => ?_
  refine qL [_] rfl ?_
  refine qA (qD (v := .slice _ _ _) rfl) ?_
  refine qZ ?_
  refine qP (vs := [_]) Tryz.results72 ⟨qM rfl rfl, trivial⟩ fun V => ?_
  exact ⟨(qX V), SlX.of (cs := [[.slice none 0 0]]) ⟨fun x hx => by simp at hx; subst hx; rfl, fun _ => ⟨b13, 0, rfl, cellsB (cs := [.slice none 0 0]) (wl_get V (i := 0) rfl)⟩⟩ (els_one ⟨_, rfl, none, 0, rfl, row_nil _ _⟩) rfl⟩
 | succ m ih =>
  intro a h a' m' ea em hm ha
  subst ea em
  obtain ⟨f, hf⟩ : ∃ f, f = fun i : Nat => (chosM n m (i + 1)).map ((i : Int) :: ·) := ⟨_, rfl⟩
  have hlt : ∀ d, d ≤ n - a → (choP f a d).length ≤ 2 ^ n := fun d hd => by rw [hf]; exact chos_lt hd
  have h2n : 2 ^ n ≤ 2 ^ 24 := Nat.pow_le_pow_right (by omega) hn
  rw [show chosM n (m + 1) a = choP f a (n - a) by rw [hf]; rfl]
  refine wM Tryz.func72 rfl Tryz.ntmps72 rfl ?_
  refine qE ?_
  refine qB rfl ?_
  refine qA (qD (v := .slice _ _ _) rfl) ?_
  refine qE ?_
  refine qE ?_
  refine qB rfl ?_
  refine qA (qC (v := .int .i64 _) rfl) ?_
  refine qA (qN (v := .bool _) rfl) ?_
  refine zJ rfl (by simp; omega) ?_
  refine qR ?_
  refine goes_more ?_
  refine qT [_] rfl ?_
  refine qE ?_
  refine qB rfl ?_
  refine qA (qD (v := .slice _ _ _) rfl) ?_
  refine qE ?_
  refine qE ?_
  refine qB rfl ?_
  refine qA (qC (v := .int .i64 _) rfl) ?_
  refine qA (qD (v := .int .i64 _) rfl) ?_
  refine qQ ?_
  refine zH [7, 8, 9, 10, 15, 16, 17, 18, 19, 20, 21, 22, 23, 24, 25, 26, 27, 28, 29, 30, 31, 32, 33, 34, 35, 36, 37, 38, 39, 40, 41] 1 (α := Nat × Acc × List (List Value)) (fun ⟨d, ac, cs⟩ => [(8, .int .i64 ((a + d : Nat) : Int)), (7, .slice ac.A ac.n ac.c)]) (fun ⟨d, ac, cs⟩ L => L.set 0 (ac.p)) (fun ⟨d, ac, cs⟩ h_d => d ≤ n - a ∧ AccR 22 1 (cs.flatMap id) ac ∧ Els h_d TL (choP f a d) cs ∧ ∀ x ∈ cs, x.length = 1) (fun ⟨d, ac, cs⟩ => n - a - d) ((0, acc0, [])) ⟨rfl, rfl, trivial⟩ (rfl) (⟨Nat.zero_le _, accR0, Els.nil _ _, fun _ hx => absurd hx List.not_mem_nil⟩) ?_
  rintro ⟨d, ac, cs⟩ T1 h_d E_d J_d
  refine qT [_] rfl ?_
  obtain ⟨J1, J2, J3, J4⟩ := J_d
  refine qE ?_
  refine qE ?_
  refine qB rfl ?_
  refine qA (qC (v := .int .i64 _) rfl) ?_
  refine qA (qC (v := .int .i64 _) rfl) ?_
  refine qA (qN (v := .bool _) rfl) ?_
  refine qU rfl (fun hd => ?_) (fun hd => ?_)
  ·skip
   have hd' : a + d < n := by have := of_decide_eq_true hd; omega
   have hstep : choP f a (d + 1) = choP f a d ++ (chosM n m (a + d + 1)).map (((a + d : Nat) : Int) :: ·) := by rw [choP_succ, hf]
   have htot := hlt (d + 1) (by omega)
   rw [hstep, List.length_append, List.length_map] at htot
   refine qR ?_
   refine qE ?_
   refine qQ ?_
   refine qE ?_
   refine qB rfl ?_
   refine qA (qC (v := .int .i64 _) rfl) ?_
   refine qA (qS rfl (by omega)) ?_
   refine qA (qC (v := .int .i64 _) rfl) ?_
   refine qA (qC (v := .int .i64 _) rfl) ?_
   refine qA (qS rfl (by omega)) ?_
   refine wJ (caps := []) (vs := [.int .i64 _, .int .i64 _, .int .i64 _]) rfl rfl rfl (ih (a + d + 1) h_d _ _ (by omega) (by omega) (by omega) (by omega)) ?_
   rintro _ h1 E1 S1
   obtain ⟨gs, RA, cR, rfl, RR, EE⟩ := SlX.els S1
   obtain ⟨rs, hrs⟩ : ∃ rs, rs = chosM n m (a + d + 1) := ⟨_, rfl⟩
   have hrm : ∀ x ∈ rs, x.length = m := fun x hx => (chos_set (by rw [← hrs]; exact hx)).2
   rw [← hrs] at EE htot hstep ⊢
   refine qA (qD (v := .slice _ _ _) rfl) ?_
   refine qE ?_
   refine qB rfl ?_
   refine qA (qD (v := .int .i64 _) rfl) ?_
   refine qQ ?_
   refine zH [7, 10, 26, 27, 28, 29, 30, 31, 32, 33, 34, 35, 36, 37, 38, 39, 40, 41] 1 (α := Nat × Acc × List (List Value)) (fun ⟨k, a2, ds⟩ => [(10, .int .i64 k), (7, .slice a2.A a2.n a2.c)]) (fun ⟨k, a2, ds⟩ L => L.set 0 (a2.p)) (fun ⟨k, a2, ds⟩ h_k => k ≤ rs.length ∧ AccR 22 1 (ds.flatMap id) a2 ∧ Els h_k TL (choP f a d ++ (rs.take k).map (((a + d : Nat) : Int) :: ·)) ds ∧ ∀ x ∈ ds, x.length = 1) (fun ⟨k, a2, ds⟩ => rs.length - k) ((0, ac, cs)) ⟨rfl, rfl, trivial⟩ (rfl) (⟨Nat.zero_le _, J2, by simpa using J3.ext TL.mono E1, J4⟩) ?_
   rintro ⟨k, a2, ds⟩ T2 h_k E_k J_k
   refine qT [_] rfl ?_
   obtain ⟨K1, K2, K3, K4⟩ := J_k
   refine qE ?_
   refine qE ?_
   refine qB rfl ?_
   refine qA (qC (v := .int .i64 _) rfl) ?_
   refine qA (qC (v := .slice _ _ _) rfl) ?_
   refine qA (wK rfl rfl) ?_
   refine qA (qN (v := .bool _) rfl) ?_
   refine qU rfl (fun hk => ?_) (fun hk => ?_)
   ·skip
    have hkl : k < rs.length := ltI hk
    have hkm := hrm _ (List.getElem_mem hkl)
    obtain ⟨hkc, y0, e0, XA, cX, rfl, RX⟩ := (EE.ext TL.mono E_k).at hkl
    obtain ⟨g, off, hA, hc⟩ := (RR.ext E_k).at (by omega) hkc
    have hc : Cells h_k g (off + k * 1) [.slice XA rs[k].length cX] := by rw [← e0]; exact hc
    have hdl : (ds.flatMap id).length = (choP f a d).length + k := by rw [wN (enc := id) (m := 1) K4, K3.1]; simp; omega
    refine qR ?_
    refine qE ?_
    refine qQ ?_
    refine qB rfl ?_
    refine qA (qC (v := .slice _ _ _) rfl) ?_
    refine qA (qC (v := .int .i64 _) rfl) ?_
    refine wA (zc := [_]) (vs := [(0, .int .i64 _)]) (cs := [_]) rfl rfl rfl rfl rfl rfl rfl fun b34 hb34 => ?_
    refine qL [_, _] rfl ?_
    refine qA (qC (v := .slice _ _ _) rfl) ?_
    refine qA (qC (v := .int .i64 _) rfl) ?_
    refine qA (wG (m := 1) rfl hA rfl rfl rfl (by omega) (by omega)) ?_
    refine wS (v := .slice _ _ _) rfl rfl ((hc) 0 _ rfl) ?_
    refine wZ 1 accR_one rfl rfl rfl (fun V => RX.2.ext (qX V)) (wN RX.1) (flat_plain intP2 rs[k]) rfl rfl rfl rfl rfl rfl rfl (by omega) rfl (by rw [wN RX.1]; simp; omega) fun a3 h3a E3a ha3 => ?_
    refine qL [_, _] rfl ?_
    refine wp_pubO 1 rfl rfl ?_
    intro g8 G8 P8
    refine qL [_, _] rfl ?_
    have R8 : Row g8 1 intC a3.A (((a + d : Nat) : Int) :: rs[k]) := ⟨fun _ _ => rfl, AccR.rd ha3 P8⟩
    have n8 : a3.n = (((a + d : Nat) : Int) :: rs[k]).length := by have := AccR.len ha3; rw [List.length_append, wN RX.1] at this; simp at this; simp; omega
    refine wA (zc := [_]) (vs := [(0, .slice _ _ _)]) (cs := [_]) rfl rfl rfl rfl rfl rfl rfl fun b40 hb40 => ?_
    refine qL [_, _, _] rfl ?_
    refine wZ 0 K2 rfl rfl rfl (fun V => rdP V (i := 2) rfl) rfl rfl rfl rfl rfl rfl rfl rfl rfl (by omega) rfl (by rw [hdl]; simp; omega) fun a4 h4a E4a ha4 => ?_
    refine qL [_, _, _] rfl ?_
    refine qA (qD (v := .slice _ _ _) rfl) ?_
    refine qB rfl ?_
    refine qA (qC (v := .int .i64 _) rfl) ?_
    refine qA (qS rfl (by omega)) ?_
    refine qA (qD (v := .int .i64 _) rfl) ?_
    refine ⟨(k + 1, a4, ds ++ [[.slice a3.A a3.n a3.c]]), ⟨rfl, rfl, trivial⟩, rfl, rfl, (zT (zT (zT E_k E3a) G8) E4a), fun h3 E3 => ⟨hkl, by rw [List.flatMap_append]; exact ha4, by rw [take_snoc hkl, List.map_append, ← List.append_assoc]; exact ((K3.ext TL.mono (zT (zT E3a G8) E4a)).snoc ⟨_, rfl, a3.A, a3.c, by rw [n8], R8.ext E4a⟩).ext TL.mono E3, one_len K4 rfl⟩, by first | omega | (dsimp only; omega), ?_⟩
    repeat (first | exact qW _ _ _ | refine wD (by decide) ?_ | refine qV rfl ?_ | refine wE rfl ?_)
   ·skip
    have hke : k = rs.length := by have := geI hk; omega
    subst hke
    rw [List.take_length, ← hstep] at K3
    refine wV ?_
    refine qB rfl ?_
    refine qA (qC (v := .int .i64 _) rfl) ?_
    refine qA (qS rfl (by omega)) ?_
    refine qA (qD (v := .int .i64 _) rfl) ?_
    refine ⟨(d + 1, a2, ds), ⟨intE (by omega), rfl, trivial⟩, rfl, rfl, (zT (zT E_d E1) E_k), fun h3 E3 => ⟨by omega, K2, (K3.ext TL.mono (Ext.refl _)).ext TL.mono E3, K4⟩, by first | omega | (dsimp only; omega), ?_⟩
    repeat (first | exact qW _ _ _ | refine wD (by decide) ?_ | refine qV rfl ?_ | refine wE rfl ?_)
  ·skip
   have hde : d = n - a := by have := of_decide_eq_false hd; omega
   subst hde
   refine wV ?_
   refine qE ?_
   refine qB rfl ?_
   refine qA (qC (v := .slice _ _ _) rfl) ?_
   refine qA (qD (v := .slice _ _ _) rfl) ?_
   refine qZ ?_
   refine qP (vs := [_]) Tryz.results72 ⟨qM rfl rfl, trivial⟩ fun V => ?_
   exact ⟨(zT E_d (qX V)), SlX.acc (i := 0) J2 (by omega) J4 V rfl (J3.ext TL.mono (qX V))⟩
theorem els_app {α : Type} {h : AH} {T : AH → α → List Value → Prop} {l l' : List α} {cs cs' : List (List Value)} (r : Els h T l cs) (r' : Els h T l' cs') : Els h T (l ++ l') (cs ++ cs') := by
 refine ⟨by simp [r.1, r'.1], fun i y d h1 h2 => ?_⟩
 rw [List.getElem?_append] at h1 h2
 rw [r.1] at h2
 split at h1
 ·rename_i hi; rw [if_pos hi] at h2; exact r.2 i y d h1 h2
 ·rename_i hi; rw [if_neg hi] at h2; exact r'.2 _ y d h1 h2
theorem app_len1 {cs ds : List (List Value)} {m : Nat} (h : ∀ x ∈ cs, x.length = m) (h' : ∀ x ∈ ds, x.length = m) : ∀ x ∈ cs ++ ds, x.length = m := fun x hx => (List.mem_append.1 hx).elim (h x) (h' x)
theorem els_plain {h : AH} {l : List (List Int)} {cs : List (List Value)} (r : Els h TL l cs) : (cs.flatMap id).all plainB = true := by
 rw [List.all_eq_true]
 intro v hv
 obtain ⟨c, hc, hvc⟩ := List.mem_flatMap.1 hv
 obtain ⟨i, hi, rfl⟩ := List.getElem_of_mem hc
 obtain ⟨hci, y, e, A, cp, rfl, _⟩ := r.at (i := i) (by rw [← r.1]; exact hi)
 rw [e] at hvc
 simp at hvc
 subst hvc
 rfl
theorem sets_len {n : Nat} (hn : n ≤ 6) : ∀ k, k ≤ n + 1 → (choP (fun m => chosM n m 0) 0 k).length ≤ k * 2 ^ 6
 | 0, _ => by simp [choP_zero]
 | k + 1, hk => by
  have ih := sets_len hn k (by omega)
  have h1 := chos_len (n := n) (0 + k) 0
  have h2 : 2 ^ (n - 0) ≤ 2 ^ 6 := Nat.pow_le_pow_right (by omega) (by omega)
  rw [choP_succ, List.length_append, Nat.add_mul]
  omega
set_option maxHeartbeats 4000000 in
theorem setsR_ok (n : Nat) (hn : n ≤ 6) (n' : Int) (en : n' = n) (h : AH) :
  FnT Tryz.prog 79 #[.int .i64 n'] h (fun v h' => SlL h' (setsM n) v) := by
 subst en
 rw [setsM_eq]
 refine wM Tryz.func79 rfl Tryz.ntmps79 rfl ?_
 refine qE ?_
 refine qB rfl ?_
 refine qA (qD (v := .slice _ _ _) rfl) ?_
 refine goes_more ?_
 refine qT [_] rfl ?_
 refine qE ?_
 refine qB rfl ?_
 refine qA (qD (v := .slice _ _ _) rfl) ?_
 refine qE ?_
 refine qE ?_
 refine qB rfl ?_
 refine qA (qD (v := .int .i64 _) rfl) ?_
 refine qQ ?_
 refine zH [3, 4, 5, 6, 7, 8, 9, 10, 11, 12, 13, 14] 1 (α := Nat × Acc × List (List Value)) (fun ⟨k, ac, cs⟩ => [(4, .int .i64 k), (3, .slice ac.A ac.n ac.c)]) (fun ⟨k, ac, cs⟩ L => L.set 0 (ac.p)) (fun ⟨k, ac, cs⟩ h_k => k ≤ n + 1 ∧ AccR 22 1 (cs.flatMap id) ac ∧ Els h_k TL (choP (fun m => chosM n m 0) 0 k) cs ∧ ∀ x ∈ cs, x.length = 1) (fun ⟨k, ac, cs⟩ => n + 1 - k) ((0, acc0, [])) ⟨rfl, rfl, trivial⟩ (rfl) (⟨Nat.zero_le _, accR0, Els.nil _ _, fun _ hx => absurd hx List.not_mem_nil⟩) ?_
 rintro ⟨k, ac, cs⟩ T1 h_k E_k J_k
 refine qT [_] rfl ?_
 obtain ⟨J1, J2, J3, J4⟩ := J_k
 refine qE ?_
 refine qE ?_
 refine qB rfl ?_
 refine qA (qC (v := .int .i64 _) rfl) ?_
 refine qA (qC (v := .int .i64 _) rfl) ?_
 refine qA (qN (v := .bool _) rfl) ?_
 refine qU rfl (fun hk => ?_) (fun hk => ?_)
 ·skip
  have hkl : k ≤ n := by have := of_decide_eq_true hk; omega
  have hs := sets_len hn k (by omega)
  have h1 := chos_len (n := n) k 0
  have h2 : 2 ^ (n - 0) ≤ 2 ^ 6 := Nat.pow_le_pow_right (by omega) (by omega)
  have hstep : choP (fun m => chosM n m 0) 0 (k + 1) = choP (fun m => chosM n m 0) 0 k ++ chosM n k 0 := by rw [choP_succ, Nat.zero_add]
  refine qR ?_
  refine qE ?_
  refine qQ ?_
  refine qB rfl ?_
  refine qA (qC (v := .slice _ _ _) rfl) ?_
  refine qA (qC (v := .int .i64 _) rfl) ?_
  refine qA (qC (v := .int .i64 _) rfl) ?_
  refine wJ (caps := []) (vs := [.int .i64 _, .int .i64 _, .int .i64 _]) rfl rfl rfl (choicesR_ok n (by omega) k 0 h_k _ _ rfl rfl (by omega) (by omega)) ?_
  rintro _ h5 E5 S5
  obtain ⟨gs, RA, cR, rfl, RR, EE⟩ := SlX.els S5
  have hdl : (cs.flatMap id).length = (choP (fun m => chosM n m 0) 0 k).length := by rw [wN (enc := id) (m := 1) J4, J3.1]; omega
  have hgl : (gs.flatMap id).length = (chosM n k 0).length * 1 := by rw [wN (enc := id) (m := 1) RR.1, EE.1]
  refine wZ 0 J2 rfl rfl rfl (fun V => RR.2.ext (qX V)) hgl (els_plain EE) rfl rfl rfl rfl rfl rfl rfl (by omega) rfl (by rw [hdl, hgl]; omega) fun a4 h2a E2a ha4 => ?_
  refine qL [_] rfl ?_
  refine qA (qD (v := .slice _ _ _) rfl) ?_
  refine qB rfl ?_
  refine qA (qC (v := .int .i64 _) rfl) ?_
  refine qA (qS rfl (by omega)) ?_
  refine qA (qD (v := .int .i64 _) rfl) ?_
  refine ⟨(k + 1, a4, cs ++ gs), ⟨rfl, rfl, trivial⟩, rfl, rfl, (zT (zT E_k E5) E2a), fun h3 E3 => ⟨by omega, by rw [List.flatMap_append]; exact ha4, by rw [hstep]; exact (els_app (J3.ext TL.mono (zT E5 E2a)) (EE.ext TL.mono E2a)).ext TL.mono E3, app_len1 J4 RR.1⟩, by first | omega | (dsimp only; omega), ?_⟩
  repeat (first | exact qW _ _ _ | refine wD (by decide) ?_ | refine qV rfl ?_ | refine wE rfl ?_)
 ·skip
  have hke : k = n + 1 := by have := of_decide_eq_false hk; omega
  subst hke
  refine wV ?_
  refine qE ?_
  refine qB rfl ?_
  refine qA (qC (v := .slice _ _ _) rfl) ?_
  refine qA (qD (v := .slice _ _ _) rfl) ?_
  refine qZ ?_
  refine qP (vs := [_]) Tryz.results79 ⟨qM rfl rfl, trivial⟩ fun V => ?_
  exact ⟨(zT E_k (qX V)), SlX.acc (i := 0) J2 (by omega) J4 V rfl (J3.ext TL.mono (qX V))⟩
end
end Go.Proofs.YthphpbdmbmiaiaaGreat
namespace Go.Proofs.YthphpbdmbmiaiaaGreat
open Go Go.HL Go.Proofs Go.Wx Go.Rd
section
variable [Lvl]
set_option maxRecDepth 100000
theorem two_len {cs : List (List Value)} {c : List Value} (h : ∀ x ∈ cs, x.length = 2) (hc : c.length = 2) : ∀ x ∈ cs ++ [c], x.length = 2 := fun x hx => by
 rcases List.mem_append.1 hx with hx | hx
 ·exact h x hx
 ·simp at hx; subst hx; exact hc
theorem pairs_take {ls bs : List (List Int)} {k : Nat} (hk : k < ls.length) : pairsM (ls.take (k + 1)) bs = pairsM (ls.take k) bs ++ bs.map fun o => ⟨ls[k], o⟩ := by
 rw [take_snoc hk]
 unfold pairsM
 rw [List.flatMap_append]
 simp
theorem setsM_len {n : Nat} (hn : n ≤ 6) : (setsM n).length ≤ 448 := by
 have h := sets_len hn (n + 1) (Nat.le_refl _)
 rw [setsM_eq]
 omega
set_option maxHeartbeats 4000000 in
theorem HandsR_ok (m : MachP) (hb : m.buttons.length ≤ 6) (hr : 0 ≤ m.regs ∧ m.regs ≤ 6) (AB AQ AL AW : Option Addr) (cB cQ cL cW : Nat) (h : AH) (RM : MachR h AB AQ AL AW m) :
  FnT Tryz.prog 53 #[machV AB AQ AL AW cB cQ cL cW m] h (fun v h' => SlX h' 2 TH (handsM m) v) := by
 obtain ⟨bs, hbs⟩ : ∃ bs, bs = setsM m.buttons.length := ⟨_, rfl⟩
 obtain ⟨rs, hrs⟩ : ∃ rs, rs = setsM m.regs.toNat := ⟨_, rfl⟩
 have hbl : bs.length ≤ 448 := by rw [hbs]; exact setsM_len hb
 have hrl : rs.length ≤ 448 := by rw [hrs]; exact setsM_len (by omega)
 have L1 := setsR_ok m.buttons.length hb m.buttons.length rfl
 have L2 := setsR_ok m.regs.toNat (by omega) m.regs (by omega)
 rw [← hbs] at L1
 rw [← hrs] at L2
 rw [show handsM m = pairsM bs rs by rw [hbs, hrs]; rfl]
 refine wM Tryz.func53 rfl Tryz.ntmps53 rfl ?_
 refine qE ?_
 refine qB rfl ?_
 refine zG (v := .agg #[.int .i64 _, .int .i64 _, .int .i64 _, .int .i64 _, .int .i64 _, .slice _ _ _, .slice _ _ _, .slice _ _ _, .slice _ _ _]) (cs := [_, _, _, _, _, _, _, _, _]) rfl rfl fun b1 hb1 => ?_
 refine qL [_] rfl ?_
 refine qA (qD (v := .slice _ _ _) rfl) ?_
 refine goes_more ?_
 refine qT [_, _] rfl ?_
 refine qE ?_
 refine qB rfl ?_
 refine qA (qD (v := .slice _ _ _) rfl) ?_
 refine qE ?_
 refine xp_dw [] rfl rfl rfl ?_
 refine qI (i := 0) rfl (by decide +kernel) (qF rfl rfl rfl rfl 5 rfl) ?_
 refine wH (i := 1) rfl (by decide +kernel) ?_
 refine qJ 0 (v := .slice _ _ _) rfl rfl rfl rfl ?_
 refine qI (i := 2) rfl (by decide +kernel) (wK rfl rfl) ?_
 refine qI (i := 4) rfl (by decide +kernel) (qF rfl rfl rfl rfl 2 rfl) ?_
 refine wH (i := 5) rfl (by decide +kernel) ?_
 refine qJ 0 (v := .int .i64 _) rfl rfl rfl rfl ?_
 refine dw_eff (i := 3) rfl (by decide +kernel) ?_
 refine wJ (caps := []) (vs := [.int .i64 _]) rfl rfl rfl (L1 h) ?_
 rintro _ h1 E1 S1
 refine ⟨ext_wlm E1 _, ?_⟩
 obtain ⟨gb, BA, cBA, rfl, RB, EB⟩ := SlX.els S1
 refine zA (i := 6) rfl (by decide +kernel) (by decide +kernel) ?_
 refine wJ (caps := []) (vs := [.int .i64 _]) rfl rfl rfl (L2 h1) ?_
 rintro _ h2 E2 S2
 obtain ⟨gr, RA, cRA, rfl, RR, ER⟩ := SlX.els S2
 refine qI (i := 7) rfl (by decide +kernel) (qD (v := .slice _ _ _) rfl) ?_
 refine qI (i := 8) rfl (by decide +kernel) (qD (v := .slice _ _ _) rfl) ?_
 refine zN rfl ?_
 refine qE ?_
 refine qE ?_
 refine qB rfl ?_
 refine qA (qD (v := .int .i64 _) rfl) ?_
 refine qQ ?_
 refine zH [3, 6, 7, 15, 16, 17, 18, 19, 20, 21, 22, 23, 24, 25, 26, 27, 28, 29, 30, 31, 32, 33, 34, 35, 36, 37, 38] 2 (α := Nat × Acc × List (List Value)) (fun ⟨k, ac, cs⟩ => [(6, .int .i64 k), (3, .slice ac.A ac.n ac.c)]) (fun ⟨k, ac, cs⟩ L => L.set 1 (ac.p)) (fun ⟨k, ac, cs⟩ h_k => k ≤ bs.length ∧ AccR 29 2 (cs.flatMap id) ac ∧ Els h_k TH (pairsM (bs.take k) rs) cs ∧ ∀ x ∈ cs, x.length = 2) (fun ⟨k, ac, cs⟩ => bs.length - k) ((0, acc0, [])) ⟨rfl, rfl, trivial⟩ (rfl) (⟨Nat.zero_le _, accR0, Els.nil _ _, fun _ hx => absurd hx List.not_mem_nil⟩) ?_
 rintro ⟨k, ac, cs⟩ T1 h_k E_k J_k
 refine qT [_, _] rfl ?_
 obtain ⟨J1, J2, J3, J4⟩ := J_k
 refine qE ?_
 refine qE ?_
 refine qB rfl ?_
 refine qA (qC (v := .int .i64 _) rfl) ?_
 refine qA (qC (v := .slice _ _ _) rfl) ?_
 refine qA (wK rfl rfl) ?_
 refine qA (qN (v := .bool _) rfl) ?_
 refine qU rfl (fun hk => ?_) (fun hk => ?_)
 ·skip
  have hkl : k < bs.length := ltI hk
  have hpl := pairs_len rs (bs.take k)
  rw [List.length_take, Nat.min_eq_left J1] at hpl
  have hpm : k * rs.length ≤ 448 * 448 := Nat.mul_le_mul (by omega) hrl
  refine qR ?_
  refine qE ?_
  refine qQ ?_
  refine qE ?_
  refine qB rfl ?_
  refine qA (qD (v := .int .i64 _) rfl) ?_
  refine qQ ?_
  refine zH [3, 7, 21, 22, 23, 24, 25, 26, 27, 28, 29, 30, 31, 32, 33, 34, 35, 36, 37, 38] 2 (α := Nat × Acc × List (List Value)) (fun ⟨j, a2, ds⟩ => [(7, .int .i64 j), (3, .slice a2.A a2.n a2.c)]) (fun ⟨j, a2, ds⟩ L => L.set 1 (a2.p)) (fun ⟨j, a2, ds⟩ h_j => j ≤ rs.length ∧ AccR 29 2 (ds.flatMap id) a2 ∧ Els h_j TH (pairsM (bs.take k) rs ++ (rs.take j).map fun o => ⟨bs[k], o⟩) ds ∧ ∀ x ∈ ds, x.length = 2) (fun ⟨j, a2, ds⟩ => rs.length - j) ((0, ac, cs)) ⟨rfl, rfl, trivial⟩ (rfl) (⟨Nat.zero_le _, J2, by simpa using J3.ext TH.mono (Ext.refl _), J4⟩) ?_
  rintro ⟨j, a2, ds⟩ T2 h_j E_j J_j
  refine qT [_, _] rfl ?_
  obtain ⟨K1, K2, K3, K4⟩ := J_j
  refine qE ?_
  refine qE ?_
  refine qB rfl ?_
  refine qA (qC (v := .int .i64 _) rfl) ?_
  refine qA (qC (v := .slice _ _ _) rfl) ?_
  refine qA (wK rfl rfl) ?_
  refine qA (qN (v := .bool _) rfl) ?_
  refine qU rfl (fun hj => ?_) (fun hj => ?_)
  ·skip
   have hjl : j < rs.length := ltI hj
   have hdl : (ds.flatMap id).length = (k * rs.length + j) * 2 := by rw [wN (enc := id) (m := 2) K4, K3.1, List.length_append, hpl]; simp; omega
   obtain ⟨hkc, y0, e0, XA, cX, rfl, RX⟩ := (EB.ext TL.mono (zT (zT E2 E_k) E_j)).at hkl
   obtain ⟨g, off, hA, hc⟩ := (RB.ext (zT (zT E2 E_k) E_j)).at (by omega) hkc
   have hc : Cells h_j g (off + k * 1) [.slice XA bs[k].length cX] := by rw [← e0]; exact hc
   obtain ⟨hjc, y1, e1, ZA, cZ, rfl, RZ⟩ := (ER.ext TL.mono (zT E_k E_j)).at hjl
   obtain ⟨g2, off2, hA2, hc2⟩ := (RR.ext (zT E_k E_j)).at (by omega) hjc
   have hc2 : Cells h_j g2 (off2 + j * 1) [.slice ZA rs[j].length cZ] := by rw [← e1]; exact hc2
   refine qR ?_
   refine qE ?_
   refine qQ ?_
   refine xp_dw [] rfl rfl rfl ?_
   refine qI (i := 0) rfl (by decide +kernel) (qC (v := .slice _ _ _) rfl) ?_
   refine qI (i := 1) rfl (by decide +kernel) (qC (v := .slice _ _ _) rfl) ?_
   refine qI (i := 2) rfl (by decide +kernel) (qC (v := .int .i64 _) rfl) ?_
   refine qI (i := 3) rfl (by decide +kernel) (wG (m := 1) rfl hA rfl rfl rfl (by omega) (by omega)) ?_
   refine wH (i := 4) rfl (by decide +kernel) ?_
   refine wS (v := .slice _ _ _) rfl rfl ((hc) 0 _ rfl) ?_
   refine qI (i := 5) rfl (by decide +kernel) (qC (v := .slice _ _ _) rfl) ?_
   refine qI (i := 6) rfl (by decide +kernel) (qC (v := .int .i64 _) rfl) ?_
   refine qI (i := 7) rfl (by decide +kernel) (wG (m := 1) rfl hA2 rfl rfl rfl (by omega) (by omega)) ?_
   refine wH (i := 8) rfl (by decide +kernel) ?_
   refine wS (v := .slice _ _ _) rfl rfl ((hc2) 0 _ rfl) ?_
   refine qI (i := 9) rfl (by decide +kernel) (pv_build (zc := [_, _]) (vs := [(0, .slice _ _ _), (1, .slice _ _ _)]) (cs := [_, _]) rfl rfl rfl rfl rfl rfl) ?_
   refine zA (i := 10) rfl (by decide +kernel) (by decide +kernel) ?_
   refine wA (zc := [_, _]) (vs := [(0, .agg #[.slice _ _ _, .slice _ _ _])]) (cs := [_, _]) rfl rfl rfl rfl rfl rfl rfl fun b37 hb37 => ?_
   refine wY [_, _, _] rfl ?_
   refine zA (i := 11) rfl (by decide +kernel) (by decide +kernel) ?_
   refine wZ 1 K2 rfl rfl rfl (fun V => rdP V (i := 2) rfl) rfl rfl rfl rfl rfl rfl rfl rfl rfl (by omega) rfl (by rw [hdl]; simp; omega) fun a4 h3a E3a ha4 => ?_
   refine wY [_, _, _] rfl ?_
   refine qI (i := 12) rfl (by decide +kernel) (qD (v := .slice _ _ _) rfl) ?_
   refine zN rfl ?_
   refine qB rfl ?_
   refine qA (qC (v := .int .i64 _) rfl) ?_
   refine qA (qS rfl (by omega)) ?_
   refine qA (qD (v := .int .i64 _) rfl) ?_
   refine ⟨(j + 1, a4, ds ++ [[.slice XA bs[k].length cX, .slice ZA rs[j].length cZ]]), ⟨rfl, rfl, trivial⟩, rfl, rfl, (zT E_j E3a), fun h3 E3 => ⟨hjl, by rw [List.flatMap_append]; exact ha4, by rw [take_snoc hjl, List.map_append, ← List.append_assoc]; exact ((K3.ext TH.mono E3a).snoc ⟨_, _, rfl, ⟨XA, cX, rfl, RX.ext E3a⟩, ⟨ZA, cZ, rfl, RZ.ext E3a⟩⟩).ext TH.mono E3, two_len K4 rfl⟩, by first | omega | (dsimp only; omega), ?_⟩
   repeat (first | exact qW _ _ _ | refine wD (by decide) ?_ | refine qV rfl ?_ | refine wE rfl ?_)
  ·skip
   have hje : j = rs.length := by have := geI hj; omega
   subst hje
   rw [List.take_length, ← pairs_take hkl] at K3
   refine wV ?_
   refine qB rfl ?_
   refine qA (qC (v := .int .i64 _) rfl) ?_
   refine qA (qS rfl (by omega)) ?_
   refine qA (qD (v := .int .i64 _) rfl) ?_
   refine ⟨(k + 1, a2, ds), ⟨rfl, rfl, trivial⟩, rfl, rfl, (zT E_k E_j), fun h3 E3 => ⟨hkl, K2, (K3.ext TH.mono (Ext.refl _)).ext TH.mono E3, K4⟩, by first | omega | (dsimp only; omega), ?_⟩
   repeat (first | exact qW _ _ _ | refine wD (by decide) ?_ | refine qV rfl ?_ | refine wE rfl ?_)
 ·skip
  have hke : k = bs.length := by have := geI hk; omega
  subst hke
  rw [List.take_length] at J3
  refine wV ?_
  refine qE ?_
  refine qB rfl ?_
  refine qA (qC (v := .slice _ _ _) rfl) ?_
  refine qA (qD (v := .slice _ _ _) rfl) ?_
  refine qZ ?_
  refine qP (vs := [_]) Tryz.results53 ⟨qM rfl rfl, trivial⟩ fun V => ?_
  exact ⟨(zT (zT (zT E1 E2) E_k) (qX V)), SlX.acc (i := 1) J2 (by omega) J4 V rfl (J3.ext TH.mono (qX V))⟩
theorem sameR_ok (a b : List Int) (A B : Option Addr) (ca cb : Nat) (h : AH) (Ra : Row h 1 intC A a) (Rb : Row h 1 intC B b) (ha : a.length < 2 ^ 40) (hb : b.length < 2 ^ 40) :
  FnT Tryz.prog 81 #[.slice A a.length ca, .slice B b.length cb] h (fun v _ => v = .bool (decide (a = b))) := by
 refine wM Tryz.func81 rfl Tryz.ntmps81 rfl ?_
 refine qE ?_
 refine qB rfl ?_
 refine qA (qD (v := .bool _) rfl) ?_
 refine qE ?_
 refine qE ?_
 refine qB rfl ?_
 refine qA (qC (v := .slice _ _ _) rfl) ?_
 refine qA (wK rfl rfl) ?_
 refine qA (qC (v := .slice _ _ _) rfl) ?_
 refine qA (wK rfl rfl) ?_
 refine qA (qN (v := .bool _) rfl) ?_
 refine qU rfl (fun hn => ?_) (fun hn => ?_)
 ·skip
  have hn' : a.length ≠ b.length := by have : ((a.length : Int) != b.length) = true := hn; simp at this; omega
  refine qE ?_
  refine qB rfl ?_
  refine qA (qD (v := .bool _) rfl) ?_
  refine qZ ?_
  refine qP (vs := [_]) Tryz.results81 ⟨qM rfl rfl, trivial⟩ fun V => ?_
  exact ⟨(qX V), boolE (decide_eq_false fun e => hn' (by rw [e])).symm⟩
 ·skip
  have hn' : a.length = b.length := by have : ((a.length : Int) != b.length) = false := hn; simp at this; omega
  refine qR ?_
  refine qE ?_
  refine qE ?_
  refine qB rfl ?_
  refine qA (qD (v := .int .i64 _) rfl) ?_
  refine qQ ?_
  refine zP [4, 5, 11, 12, 13, 14, 15, 16, 17, 18, 19, 20, 21, 22, 23, 24, 25] 0 (α := Nat) (fun k => [(5, .int .i64 k)]) (fun k => _) (fun k h_k => k ≤ a.length ∧ a.take k = b.take k) (fun k => a.length - k) (0) ⟨rfl, trivial⟩ (rfl) (⟨Nat.zero_le _, by simp⟩) ?_
  rintro k T1 h_k E_k J_k
  refine qT [] rfl ?_
  obtain ⟨K1, K2⟩ := J_k
  refine qE ?_
  refine qE ?_
  refine qB rfl ?_
  refine qA (qC (v := .int .i64 _) rfl) ?_
  refine qA (qC (v := .slice _ _ _) rfl) ?_
  refine qA (wK rfl rfl) ?_
  refine qA (qN (v := .bool _) rfl) ?_
  refine qU rfl (fun hk => ?_) (fun hk => ?_)
  ·skip
   have hka : k < a.length := ltI hk
   have hkb : k < b.length := by omega
   obtain ⟨g, off, hA, hc⟩ := (Ra.ext E_k).at (by omega) hka
   obtain ⟨g2, off2, hA2, hc2⟩ := (Rb.ext E_k).at (by omega) hkb
   refine qR ?_
   refine qE ?_
   refine qQ ?_
   refine qE ?_
   refine xp_dw [] rfl rfl rfl ?_
   refine qI (i := 0) rfl (by decide +kernel) (qC (v := .slice _ _ _) rfl) ?_
   refine qI (i := 1) rfl (by decide +kernel) (qC (v := .int .i64 _) rfl) ?_
   refine qI (i := 2) rfl (by decide +kernel) (wG rfl hA rfl rfl rfl (by omega) (by omega)) ?_
   refine wH (i := 3) rfl (by decide +kernel) ?_
   refine wS (v := .int .i64 _) rfl rfl ((hc) 0 _ rfl) ?_
   refine qI (i := 4) rfl (by decide +kernel) (qC (v := .slice _ _ _) rfl) ?_
   refine qI (i := 5) rfl (by decide +kernel) (qC (v := .int .i64 _) rfl) ?_
   refine qI (i := 6) rfl (by decide +kernel) (wG rfl hA2 rfl rfl rfl (by omega) (by omega)) ?_
   refine wH (i := 7) rfl (by decide +kernel) ?_
   refine wS (v := .int .i64 _) rfl rfl ((hc2) 0 _ rfl) ?_
   refine qI (i := 8) rfl (by decide +kernel) (qN (v := .bool _) rfl) ?_
   refine zN rfl ?_
   refine qU rfl (fun hd => ?_) (fun hd => ?_)
   ·skip
    have hd' : a[k] ≠ b[k] := by simpa using hd
    refine qE ?_
    refine qB rfl ?_
    refine qA (qD (v := .bool _) rfl) ?_
    refine qZ ?_
    refine qP (vs := [_]) Tryz.results81 ⟨qM rfl rfl, trivial⟩ fun V => ?_
    exact ⟨(zT E_k (qX V)), boolE (decide_eq_false fun e => hd' (by subst e; rfl)).symm⟩
   ·skip
    have hd' : a[k] = b[k] := by simpa using hd
    refine qR ?_
    refine qB rfl ?_
    refine qA (qC (v := .int .i64 _) rfl) ?_
    refine qA (qS rfl (by omega)) ?_
    refine qA (qD (v := .int .i64 _) rfl) ?_
    refine ⟨k + 1, ⟨rfl, trivial⟩, rfl, rfl, E_k, fun h3 E3 => ⟨hka, by rw [take_snoc hka, take_snoc hkb, K2, hd']⟩, by first | omega | (dsimp only; omega), ?_⟩
    repeat (first | exact qW _ _ _ | refine wD (by decide) ?_ | refine qV rfl ?_ | refine wE rfl ?_)
  ·skip
   have hke : k = a.length := by have := geI hk; omega
   subst hke
   rw [List.take_length, hn', List.take_length] at K2
   refine wV ?_
   refine qE ?_
   refine qB rfl ?_
   refine qA (qD (v := .bool _) rfl) ?_
   refine qZ ?_
   refine qP (vs := [_]) Tryz.results81 ⟨qM rfl rfl, trivial⟩ fun V => ?_
   exact ⟨(zT E_k (qX V)), boolE (decide_eq_true K2).symm⟩
theorem withoutR_ok (l : List Int) (n : Int) (A : Option Addr) (c : Nat) (h : AH) (R : Row h 1 intC A l) (hl : l.length < 2 ^ 20) :
  FnT Tryz.prog 91 #[.slice A l.length c, .int .i64 n] h (fun v h' => SlR h' 1 intC (l.filter fun x => x != n) v) := by
 refine wM Tryz.func91 rfl Tryz.ntmps91 rfl ?_
 refine qE ?_
 refine qB rfl ?_
 refine qA (qD (v := .slice _ _ _) rfl) ?_
 refine goes_more ?_
 refine qT [_] rfl ?_
 refine qE ?_
 refine qB rfl ?_
 refine qA (qD (v := .slice _ _ _) rfl) ?_
 refine qE ?_
 refine qE ?_
 refine qB rfl ?_
 refine qA (qD (v := .int .i64 _) rfl) ?_
 refine qQ ?_
 refine zH [5, 6, 7, 8, 9, 10, 11, 12, 13, 14, 15, 16, 17, 18, 19, 20, 21, 22, 23, 24, 25] 1 (α := Nat × Acc) (fun ⟨k, a⟩ => [(6, .int .i64 k), (5, .slice a.A a.n a.c)]) (fun ⟨k, a⟩ L => L.set 0 (a.p)) (fun ⟨k, a⟩ h_k => k ≤ l.length ∧ AccR 3 1 (((l.take k).filter fun x => x != n).flatMap intC) a) (fun ⟨k, a⟩ => l.length - k) ((0, acc0)) ⟨rfl, rfl, trivial⟩ (rfl) (⟨Nat.zero_le _, accR0⟩) ?_
 rintro ⟨k, a⟩ T1 h_k E_k J_k
 refine qT [_] rfl ?_
 obtain ⟨K1, K2⟩ := J_k
 refine qE ?_
 refine qE ?_
 refine qB rfl ?_
 refine qA (qC (v := .int .i64 _) rfl) ?_
 refine qA (qC (v := .slice _ _ _) rfl) ?_
 refine qA (wK rfl rfl) ?_
 refine qA (qN (v := .bool _) rfl) ?_
 refine qU rfl (fun hk => ?_) (fun hk => ?_)
 ·skip
  have hkl : k < l.length := ltI hk
  obtain ⟨g, off, hA, hc⟩ := (R.ext E_k).at (by omega) hkl
  have hfl : (((l.take k).filter fun x => x != n).flatMap intC).length ≤ k := by rw [wN (m := 1) (fun _ _ => rfl)]; have := List.length_filter_le (fun x => x != n) (l.take k); rw [List.length_take] at this; omega
  refine qR ?_
  refine qE ?_
  refine qQ ?_
  refine qE ?_
  refine qB rfl ?_
  refine qA (qC (v := .slice _ _ _) rfl) ?_
  refine qA (qC (v := .int .i64 _) rfl) ?_
  refine qA (wG rfl hA rfl rfl rfl (by omega) (by omega)) ?_
  refine wS (v := .int .i64 _) rfl rfl ((hc) 0 _ rfl) ?_
  refine qA (qC (v := .int .i64 _) rfl) ?_
  refine qA (qN (v := .bool _) rfl) ?_
  refine qU rfl (fun hd => ?_) (fun hd => ?_)
  ·skip
   obtain ⟨g2, off2, hA2, hc2⟩ := (R.ext E_k).at (by omega) hkl
   refine qB rfl ?_
   refine qA (qC (v := .slice _ _ _) rfl) ?_
   refine qA (qC (v := .slice _ _ _) rfl) ?_
   refine qA (qC (v := .int .i64 _) rfl) ?_
   refine qA (wG rfl hA2 rfl rfl rfl (by omega) (by omega)) ?_
   refine wS (v := .int .i64 _) rfl rfl ((hc2) 0 _ rfl) ?_
   refine wA (zc := [_]) (vs := [(0, .int .i64 _)]) (cs := [_]) rfl rfl rfl rfl rfl rfl rfl fun b24 hb24 => ?_
   refine qL [_, _] rfl ?_
   refine wZ 0 K2 rfl rfl rfl (fun V => rdP V (i := 1) rfl) rfl rfl rfl rfl rfl rfl rfl rfl rfl (by omega) rfl (by simp only [List.length_cons, List.length_nil]; omega) fun a2 h2a E2a ha2 => ?_
   refine qL [_, _] rfl ?_
   refine qA (qD (v := .slice _ _ _) rfl) ?_
   refine qB rfl ?_
   refine qA (qC (v := .int .i64 _) rfl) ?_
   refine qA (qS rfl (by omega)) ?_
   refine qA (qD (v := .int .i64 _) rfl) ?_
   refine ⟨(k + 1, a2), ⟨rfl, rfl, trivial⟩, rfl, rfl, (zT E_k E2a), fun h3 E3 => ⟨hkl, by rw [take_snoc hkl, List.filter_append, List.filter_cons_of_pos (by exact hd), List.flatMap_append]; exact ha2⟩, by first | omega | (dsimp only; omega), ?_⟩
   repeat (first | exact qW _ _ _ | refine wD (by decide) ?_ | refine qV rfl ?_ | refine wE rfl ?_)
  ·skip
   refine qR ?_
   refine qB rfl ?_
   refine qA (qC (v := .int .i64 _) rfl) ?_
   refine qA (qS rfl (by omega)) ?_
   refine qA (qD (v := .int .i64 _) rfl) ?_
   refine ⟨(k + 1, a), ⟨rfl, rfl, trivial⟩, rfl, rfl, E_k, fun h3 E3 => ⟨hkl, by rw [take_snoc hkl, List.filter_append, List.filter_cons_of_neg (by rw [hd]; decide), List.filter_nil, List.append_nil]; exact K2⟩, by first | omega | (dsimp only; omega), ?_⟩
   repeat (first | exact qW _ _ _ | refine wD (by decide) ?_ | refine qV rfl ?_ | refine wE rfl ?_)
 ·skip
  have hke : k = l.length := by have := geI hk; omega
  subst hke
  rw [List.take_length] at K2
  refine wV ?_
  refine qE ?_
  refine qB rfl ?_
  refine qA (qC (v := .slice _ _ _) rfl) ?_
  refine qA (qD (v := .slice _ _ _) rfl) ?_
  refine qZ ?_
  refine qP (vs := [_]) Tryz.results91 ⟨qM rfl rfl, trivial⟩ fun V => ?_
  exact ⟨(zT E_k (qX V)), AccP.row (i := 0) K2 (by omega) (fun _ _ => rfl) V rfl⟩
theorem withR_ok (l : List Int) (n : Int) (A : Option Addr) (c : Nat) (h : AH) (R : Row h 1 intC A l) (hl : l.length < 2 ^ 20) :
  FnT Tryz.prog 90 #[.slice A l.length c, .int .i64 n] h (fun v h' => SlR h' 1 intC ((l.filter fun x => decide (x < n)) ++ [n] ++ l.filter fun x => decide (x > n)) v) := by
 refine wM Tryz.func90 rfl Tryz.ntmps90 rfl ?_
 refine qE ?_
 refine qB rfl ?_
 refine qA (qD (v := .slice _ _ _) rfl) ?_
 refine goes_more ?_
 refine qT [_] rfl ?_
 refine qE ?_
 refine qB rfl ?_
 refine qA (qD (v := .slice _ _ _) rfl) ?_
 refine qE ?_
 refine qE ?_
 refine qB rfl ?_
 refine qA (qD (v := .int .i64 _) rfl) ?_
 refine qQ ?_
 refine zH [5, 6, 8, 9, 10, 11, 12, 13, 14, 15, 16, 17, 18, 19, 20, 21, 22, 23, 24, 25, 26] 1 (α := Nat × Acc) (fun ⟨k, a⟩ => [(6, .int .i64 k), (5, .slice a.A a.n a.c)]) (fun ⟨k, a⟩ L => L.set 0 (a.p)) (fun ⟨k, a⟩ h_k => k ≤ l.length ∧ AccR 3 1 (((l.take k).filter fun x => decide (x < n)).flatMap intC) a) (fun ⟨k, a⟩ => l.length - k) ((0, acc0)) ⟨rfl, rfl, trivial⟩ (rfl) (⟨Nat.zero_le _, accR0⟩) ?_
 rintro ⟨k, a⟩ T1 h_k E_k J_k
 refine qT [_] rfl ?_
 obtain ⟨K1, K2⟩ := J_k
 refine qE ?_
 refine qE ?_
 refine qB rfl ?_
 refine qA (qC (v := .int .i64 _) rfl) ?_
 refine qA (qC (v := .slice _ _ _) rfl) ?_
 refine qA (wK rfl rfl) ?_
 refine qA (qN (v := .bool _) rfl) ?_
 refine qU rfl (fun hk => ?_) (fun hk => ?_)
 ·skip
  have hkl : k < l.length := ltI hk
  obtain ⟨g, off, hA, hc⟩ := (R.ext E_k).at (by omega) hkl
  have hfl : (((l.take k).filter fun x => decide (x < n)).flatMap intC).length ≤ k := by rw [wN (m := 1) (fun _ _ => rfl)]; have := List.length_filter_le (fun x => decide (x < n)) (l.take k); rw [List.length_take] at this; omega
  refine qR ?_
  refine qE ?_
  refine qQ ?_
  refine qE ?_
  refine qB rfl ?_
  refine qA (qC (v := .slice _ _ _) rfl) ?_
  refine qA (qC (v := .int .i64 _) rfl) ?_
  refine qA (wG rfl hA rfl rfl rfl (by omega) (by omega)) ?_
  refine wS (v := .int .i64 _) rfl rfl ((hc) 0 _ rfl) ?_
  refine qA (qC (v := .int .i64 _) rfl) ?_
  refine qA (qN (v := .bool _) rfl) ?_
  refine qU rfl (fun hd => ?_) (fun hd => ?_)
  ·skip
   obtain ⟨g2, off2, hA2, hc2⟩ := (R.ext E_k).at (by omega) hkl
   refine qB rfl ?_
   refine qA (qC (v := .slice _ _ _) rfl) ?_
   refine qA (qC (v := .slice _ _ _) rfl) ?_
   refine qA (qC (v := .int .i64 _) rfl) ?_
   refine qA (wG rfl hA2 rfl rfl rfl (by omega) (by omega)) ?_
   refine wS (v := .int .i64 _) rfl rfl ((hc2) 0 _ rfl) ?_
   refine wA (zc := [_]) (vs := [(0, .int .i64 _)]) (cs := [_]) rfl rfl rfl rfl rfl rfl rfl fun b25 hb25 => ?_
   refine qL [_, _] rfl ?_
   refine wZ 0 K2 rfl rfl rfl (fun V => rdP V (i := 1) rfl) rfl rfl rfl rfl rfl rfl rfl rfl rfl (by omega) rfl (by simp only [List.length_cons, List.length_nil]; omega) fun a2 h2a E2a ha2 => ?_
   refine qL [_, _] rfl ?_
   refine qA (qD (v := .slice _ _ _) rfl) ?_
   refine qB rfl ?_
   refine qA (qC (v := .int .i64 _) rfl) ?_
   refine qA (qS rfl (by omega)) ?_
   refine qA (qD (v := .int .i64 _) rfl) ?_
   refine ⟨(k + 1, a2), ⟨rfl, rfl, trivial⟩, rfl, rfl, (zT E_k E2a), fun h3 E3 => ⟨hkl, by rw [take_snoc hkl, List.filter_append, List.filter_cons_of_pos (by exact hd), List.flatMap_append]; exact ha2⟩, by first | omega | (dsimp only; omega), ?_⟩
   repeat (first | exact qW _ _ _ | refine wD (by decide) ?_ | refine qV rfl ?_ | refine wE rfl ?_)
  ·skip
   refine qR ?_
   refine qB rfl ?_
   refine qA (qC (v := .int .i64 _) rfl) ?_
   refine qA (qS rfl (by omega)) ?_
   refine qA (qD (v := .int .i64 _) rfl) ?_
   refine ⟨(k + 1, a), ⟨rfl, rfl, trivial⟩, rfl, rfl, E_k, fun h3 E3 => ⟨hkl, by rw [take_snoc hkl, List.filter_append, List.filter_cons_of_neg (by rw [hd]; decide), List.filter_nil, List.append_nil]; exact K2⟩, by first | omega | (dsimp only; omega), ?_⟩
   repeat (first | exact qW _ _ _ | refine wD (by decide) ?_ | refine qV rfl ?_ | refine wE rfl ?_)
 ·skip
  have hke : k = l.length := by have := geI hk; omega
  subst hke
  rw [List.take_length] at K2
  obtain ⟨f1, hf1⟩ : ∃ f1, f1 = (l.filter fun x => decide (x < n)) := ⟨_, rfl⟩
  have hf1l : f1.length ≤ l.length := by rw [hf1]; exact List.length_filter_le _ _
  rw [← hf1] at K2 ⊢
  refine wV ?_
  refine qE ?_
  refine qB rfl ?_
  refine qA (qC (v := .slice _ _ _) rfl) ?_
  refine qA (qC (v := .int .i64 _) rfl) ?_
  refine wA (zc := [_]) (vs := [(0, .int .i64 _)]) (cs := [_]) rfl rfl rfl rfl rfl rfl rfl fun b29 hb29 => ?_
  refine qL [_, _] rfl ?_
  refine wZ 0 K2 rfl rfl rfl (fun V => rdP V (i := 1) rfl) rfl rfl rfl rfl rfl rfl rfl rfl rfl (by omega) rfl (by rw [wN (m := 1) (fun _ _ => rfl)]; simp; omega) fun a0 h3a E3a ha0 => ?_
  refine qL [_, _] rfl ?_
  refine qA (qD (v := .slice _ _ _) rfl) ?_
  refine qE ?_
  refine qE ?_
  refine qB rfl ?_
  refine qA (qD (v := .int .i64 _) rfl) ?_
  refine qQ ?_
  refine zH [5, 7, 31, 32, 33, 34, 35, 36, 37, 38, 39, 40, 41, 42, 43, 44, 45, 46, 47, 48, 49] 2 (α := Nat × Acc) (fun ⟨j, a3⟩ => [(7, .int .i64 j), (5, .slice a3.A a3.n a3.c)]) (fun ⟨j, a3⟩ L => L.set 0 (a3.p)) (fun ⟨j, a3⟩ h_j => j ≤ l.length ∧ AccR 3 1 ((f1 ++ [n] ++ (l.take j).filter fun x => decide (x > n)).flatMap intC) a3) (fun ⟨j, a3⟩ => l.length - j) ((0, a0)) ⟨rfl, rfl, trivial⟩ (rfl) (⟨Nat.zero_le _, by rw [List.take_zero, List.filter_nil, List.append_nil, List.flatMap_append]; exact ha0⟩) ?_
  rintro ⟨j, a3⟩ T4 h_j E_j J_j
  refine qT [_, _] rfl ?_
  obtain ⟨K3, K4⟩ := J_j
  refine qE ?_
  refine qE ?_
  refine qB rfl ?_
  refine qA (qC (v := .int .i64 _) rfl) ?_
  refine qA (qC (v := .slice _ _ _) rfl) ?_
  refine qA (wK rfl rfl) ?_
  refine qA (qN (v := .bool _) rfl) ?_
  refine qU rfl (fun hj => ?_) (fun hj => ?_)
  ·skip
   have hjl : j < l.length := ltI hj
   obtain ⟨g, off, hA, hc⟩ := (R.ext (zT (zT E_k E3a) E_j)).at (by omega) hjl
   have hfl : ((f1 ++ [n] ++ (l.take j).filter fun x => decide (x > n)).flatMap intC).length ≤ f1.length + 1 + j := by rw [wN (m := 1) (fun _ _ => rfl), List.length_append, List.length_append]; have := List.length_filter_le (fun x => decide (x > n)) (l.take j); rw [List.length_take] at this; simp only [List.length_cons, List.length_nil]; omega
   refine qR ?_
   refine qE ?_
   refine qQ ?_
   refine qE ?_
   refine qB rfl ?_
   refine qA (qC (v := .slice _ _ _) rfl) ?_
   refine qA (qC (v := .int .i64 _) rfl) ?_
   refine qA (wG rfl hA rfl rfl rfl (by omega) (by omega)) ?_
   refine wS (v := .int .i64 _) rfl rfl ((hc) 0 _ rfl) ?_
   refine qA (qC (v := .int .i64 _) rfl) ?_
   refine qA (qN (v := .bool _) rfl) ?_
   refine qU rfl (fun hd => ?_) (fun hd => ?_)
   ·skip
    obtain ⟨g2, off2, hA2, hc2⟩ := (R.ext (zT (zT E_k E3a) E_j)).at (by omega) hjl
    refine qB rfl ?_
    refine qA (qC (v := .slice _ _ _) rfl) ?_
    refine qA (qC (v := .slice _ _ _) rfl) ?_
    refine qA (qC (v := .int .i64 _) rfl) ?_
    refine qA (wG rfl hA2 rfl rfl rfl (by omega) (by omega)) ?_
    refine wS (v := .int .i64 _) rfl rfl ((hc2) 0 _ rfl) ?_
    refine wA (zc := [_]) (vs := [(0, .int .i64 _)]) (cs := [_]) rfl rfl rfl rfl rfl rfl rfl fun b48 hb48 => ?_
    refine qL [_, _, _] rfl ?_
    refine wZ 0 K4 rfl rfl rfl (fun V => rdP V (i := 2) rfl) rfl rfl rfl rfl rfl rfl rfl rfl rfl (by omega) rfl (by simp only [List.length_cons, List.length_nil]; omega) fun a2 h5a E5a ha2 => ?_
    refine qL [_, _, _] rfl ?_
    refine qA (qD (v := .slice _ _ _) rfl) ?_
    refine qB rfl ?_
    refine qA (qC (v := .int .i64 _) rfl) ?_
    refine qA (qS rfl (by omega)) ?_
    refine qA (qD (v := .int .i64 _) rfl) ?_
    refine ⟨(j + 1, a2), ⟨rfl, rfl, trivial⟩, rfl, rfl, (zT E_j E5a), fun h3 E3 => ⟨hjl, by rw [take_snoc hjl, List.filter_append, List.filter_cons_of_pos (by exact hd), List.filter_nil, ← List.append_assoc, List.flatMap_append]; exact ha2⟩, by first | omega | (dsimp only; omega), ?_⟩
    repeat (first | exact qW _ _ _ | refine wD (by decide) ?_ | refine qV rfl ?_ | refine wE rfl ?_)
   ·skip
    refine qR ?_
    refine qB rfl ?_
    refine qA (qC (v := .int .i64 _) rfl) ?_
    refine qA (qS rfl (by omega)) ?_
    refine qA (qD (v := .int .i64 _) rfl) ?_
    refine ⟨(j + 1, a3), ⟨rfl, rfl, trivial⟩, rfl, rfl, E_j, fun h3 E3 => ⟨hjl, by rw [take_snoc hjl, List.filter_append, List.filter_cons_of_neg (by rw [hd]; decide), List.filter_nil, List.append_nil]; exact K4⟩, by first | omega | (dsimp only; omega), ?_⟩
    repeat (first | exact qW _ _ _ | refine wD (by decide) ?_ | refine qV rfl ?_ | refine wE rfl ?_)
  ·skip
   have hje : j = l.length := by have := geI hj; omega
   subst hje
   rw [List.take_length] at K4
   refine wV ?_
   refine qE ?_
   refine qB rfl ?_
   refine qA (qC (v := .slice _ _ _) rfl) ?_
   refine qA (qD (v := .slice _ _ _) rfl) ?_
   refine qZ ?_
   refine qP (vs := [_]) Tryz.results90 ⟨qM rfl rfl, trivial⟩ fun V => ?_
   exact ⟨(zT (zT (zT E_k E3a) E_j) (qX V)), AccP.row (i := 0) K4 (by omega) (fun _ _ => rfl) V rfl⟩
end
end Go.Proofs.YthphpbdmbmiaiaaGreat
namespace Go.HL
open Go
variable [Lvl]
section
variable {P : Program} {n : Nat} {d : Option Tmp} {ty : TypeId} {ps : String} {af : Array Edge} {S : Sl}
theorem pv_sliceHi {x hi : Operand} {t e : TypeId} {m len cap : Nat} {A : Option Addr} (j : Nat) {k2 : IntKind} {j' : Int} (hx : ev n S x = .slice A len cap) (hh : ev n S hi = .int k2 j') (ej : j' = j) (ht : pev P (underlying t) = some (.slice e)) (hs : pev P (sizeOf e) = some m) (hjc : j ≤ cap) :
  pev P (execOp (ev n S) ⟨d, .slice t x none (some hi) none, ty, ps, af, none⟩) = some (.value (.slice A j cap)) := by
 subst ej
 simp only [execOp, hx, hh, Option.map]
 refine (pev_bind (a := .slice A j cap) ?_).trans rfl
 unfold Instr.sliceAt
 refine (zE ht).trans ?_
 simp only
 unfold Instr.slice
 refine (zE ht).trans ?_
 simp only
 have hb : pev P (Instr.sliceBounds true len cap none (some (.int k2 (j : Int))) none) = some (0, j, cap) := by
  unfold Instr.sliceBounds
  refine (zE (a := cap) rfl).trans ?_
  have h1 : pev P (Instr.sliceBound (.int k2 (j : Int)) cap .sliceAcap) = some j := by
   unfold Instr.sliceBound
   refine (zE (a := (k2, (j : Int))) rfl).trans ?_
   simp only
   rw [if_pos ⟨by omega, by omega⟩]
   rfl
  refine (zE h1).trans ?_
  rfl
 refine (zE hb).trans ?_
 simp only
 refine (zE hs).trans ?_
 have e0 : (if cap = 0 then A else A.map (·.add (0 * m))) = A := by
  split
  ·rfl
  ·cases A <;> simp [Addr.add]
 show some (Value.slice (if cap = 0 then A else A.map (·.add (0 * m))) (j - 0) (cap - 0)) = _
 rw [e0]
 rfl
theorem pv_sliceLo {x lo : Operand} {t e : TypeId} {m len cap : Nat} {A : Option Addr} (i : Nat) {k : IntKind} {i' : Int} (hx : ev n S x = .slice A len cap) (hl : ev n S lo = .int k i') (ei : i' = i) (ht : pev P (underlying t) = some (.slice e)) (hs : pev P (sizeOf e) = some m) (hij : i ≤ len) (hc : len ≤ cap) :
  pev P (execOp (ev n S) ⟨d, .slice t x (some lo) none none, ty, ps, af, none⟩) = some (.value (.slice (if cap = i then A else A.map (·.add (i * m))) (len - i) (cap - i))) := by
 subst ei
 simp only [execOp, hx, hl, Option.map]
 refine (pev_bind (a := .slice (if cap = i then A else A.map (·.add (i * m))) (len - i) (cap - i)) ?_).trans rfl
 unfold Instr.sliceAt
 refine (zE ht).trans ?_
 simp only
 unfold Instr.slice
 refine (zE ht).trans ?_
 simp only
 have hb : pev P (Instr.sliceBounds true len cap (some (.int k (i : Int))) none none) = some (i, len, cap) := by
  unfold Instr.sliceBounds
  refine (zE (a := cap) rfl).trans ?_
  have h1 : ∀ f, pev P (Instr.sliceBound (.int .i64 (len : Int)) cap f) = some len := by
   intro f
   unfold Instr.sliceBound
   refine (zE (a := (IntKind.i64, (len : Int))) rfl).trans ?_
   simp only
   rw [if_pos ⟨by omega, by omega⟩]
   rfl
  have h2 : pev P (Instr.sliceBound (.int k (i : Int)) len .sliceB) = some i := by
   unfold Instr.sliceBound
   refine (zE (a := (k, (i : Int))) rfl).trans ?_
   simp only
   rw [if_pos ⟨by omega, by omega⟩]
   rfl
  first
  | (refine (zE (a := len) rfl).trans ?_; refine (zE h2).trans ?_; rfl)
  | (refine (zE (a := len) (h1 _)).trans ?_; refine (zE h2).trans ?_; rfl)
 refine (zE hb).trans ?_
 simp only
 refine (zE hs).trans ?_
 rfl
end
theorem rd_drop {H : AH} {A : Option Addr} {cs : List Value} (r : Rd H A cs) (k : Nat) : Rd H (A.map (·.add k)) (cs.drop k) := fun hne => by
 obtain ⟨g, off, rfl, c⟩ := r (fun e => hne (by rw [e, List.drop_nil]))
 refine ⟨g, off + k, by simp [Addr.add], fun j u hu => ?_⟩
 rw [List.getElem?_drop] at hu
 have := c (k + j) u hu
 rw [← Nat.add_assoc] at this
 exact this
end Go.HL
