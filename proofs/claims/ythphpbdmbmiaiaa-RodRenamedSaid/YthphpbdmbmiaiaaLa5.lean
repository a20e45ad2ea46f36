/- An own logic over the model, its walks and its plain laws, joined of parts GP R19 GQ Rm Rn Ro R20 R21 U Uc Rp GS R23 R27 R24 R28. Conditions: as each theorem states. -/
import Derived.Test.YthphpbdmbmiaiaaLa4
import Derived.Test.YthphpbdmbmiaiaaLa1
import Derived.Test.YthphpbdmbmiaiaaLa2
import Derived.Conc.LeavingOf
set_option linter.all false
/- The own logic, part GP: drawn regions where guarded operations that only make a block may come in any order. Conditions: none. -/
namespace Go.HL
open Go
variable [Lvl]
section
variable {P : Program} {n : Nat} {ops : Array Oper}
theorem T1_fin {o : Oper} {S : Sl} {H : AH} {X : Sl → AH → Prop} (t : T1 P n ops o X S H) (f : Fin H) : T1 P n ops o (fun S' H' => Fin H' ∧ X S' H') S H := by
  unfold T1 at t ⊢
  split
  · rename_i hg
    rw [hg] at t
    exact opW_fin t f
  · rename_i j w hg
    rw [hg] at t
    obtain ⟨b, h1, h2, h3⟩ := t
    exact ⟨b, h1, fun e => opW_fin (h2 e) f, fun e => ⟨f, h3 e⟩⟩
theorem T1_guard {o : Oper} {j : Nat} {w : Bool} (hg : o.guard = some (j, w)) {S : Sl} {H : AH} {X : Sl → AH → Prop} :
    T1 P n ops o X S H ↔ (gval (ev n S (.tmp (((ops[j]?).bind (·.dst)).getD n))) = some w → T1 P n ops { o with guard := none } X S H) ∧ (gval (ev n S (.tmp (((ops[j]?).bind (·.dst)).getD n))) ≠ some w → X (put S o.dst undef) H) := by
  obtain ⟨d, op, ty, ps, af, gd⟩ := o
  simp only at hg
  subst hg
  constructor
  · rintro ⟨b, h1, h2, h3⟩
    subst h1
    exact ⟨fun e => h2 e, fun e => h3 e⟩
  · rintro ⟨h2, h3⟩
    exact ⟨_, rfl, fun e => h2 e, fun e => h3 e⟩
theorem el_left {d : Nat} : ∀ {a b : List Nat}, el d (a ++ b) = false → el d a = false
  | [], _, _ => rfl
  | x :: a, b, h => by
    rw [List.cons_append, el_cons, Bool.or_eq_false_iff] at h
    rw [el_cons, h.1, el_left h.2]
    rfl
theorem apart_bare {oi oj : Oper} (h : apart (ops := ops) oi oj = true) : apart (ops := ops) oi { oj with guard := none } = true := by
  unfold apart at h ⊢
  rw [Bool.and_eq_true] at h ⊢
  refine ⟨?_, h.2⟩
  have h1 := h.1
  cases hd : oi.dst with
  | none => rfl
  | some d =>
    rw [hd] at h1
    simp only [Bool.and_eq_true, Bool.not_eq_true'] at h1 ⊢
    refine ⟨?_, h1.2⟩
    have : reads ops { oj with guard := none } = opTmps oj.op ++ [] := rfl
    rw [this, List.append_nil]
    exact el_left h1.1
theorem guard_same {oi oj : Oper} {j : Nat} {w : Bool} (hg : oj.guard = some (j, w)) (hap : apart (ops := ops) oi oj = true) (S : Sl) (v : Value) :
    ev n (put S oi.dst v) (.tmp (((ops[j]?).bind (·.dst)).getD n)) = ev n S (.tmp (((ops[j]?).bind (·.dst)).getD n)) := by
  cases hd : (ops[j]?).bind (·.dst) with
  | none => simp [ev]
  | some d =>
    have := put_agree hap S v d (List.mem_append_right _ (by simp [guardT, hg, hd]))
    simp only [Option.getD_some, ev]
    rw [this]
/-- An operation that only makes a block, or hands a value on, may come first: guarded or not. -/
theorem swap_freeG {oi oj : Oper} {S : Sl} {H : AH} {Y : Sl → AH → Prop} (hf : freeOp oj.op = true) (hap : apart (ops := ops) oi oj = true) (fH : Fin H)
    (t : T1 P n ops oi (fun S' H' => T1 P n ops oj Y S' H') S H) : T1 P n ops oj (fun S' H' => Ext H H' ∧ T1 P n ops oi Y S' H') S H := by
  cases hg : oj.guard with
  | none => exact swap_free hf hg hap fH t
  | some jw =>
    obtain ⟨j, w⟩ := jw
    rw [T1_guard hg]
    constructor
    · intro hv
      refine swap_free (oj := { oj with guard := none }) hf rfl (apart_bare hap) fH ?_
      refine T1_mono' (fun v H' y => ?_) t
      exact ((T1_guard hg).1 y).1 (by rw [guard_same hg hap]; exact hv)
    · intro hv
      refine ⟨Ext.refl H, ?_⟩
      have t2 : T1 P n ops oi (fun S' H' => Y (put S' oj.dst undef) H') S H := T1_mono' (fun v H' y => ((T1_guard hg).1 y).2 (by rw [guard_same hg hap]; exact hv)) t
      refine T1_agree (X := fun S' H' => Y (put S' oj.dst undef) H') (fun x hx => (put_agree (apart_symm hap) S undef x hx).symm) ?_ t2
      intro v H' y
      rw [put_swap hap S v undef] at y
      exact y
/-- An operation is taken first where only operations that make a block or hand a value on could come ahead of it. -/
theorem take_anyG {X : Sl → AH → Prop} {i : Nat} {oi : Oper} (hoi : ops[i]? = some oi) :
    ∀ (m : Nat) (dn ac : List Nat) (G : Gh) (S : Sl) (H : AH), Fin H → (left ops dn).length = m + 1 → ready ops dn i = true → (∀ k, el k (blk ops i) = true → el k dn = false) → GT ops ac G H →
      (∀ g ∈ G, ∀ H1 H2, Ext H1 H2 → g.2 H1 → g.2 H2) →
      (∀ j oj, ops[j]? = some oj → j ≠ i → el j dn = false → el j (blk ops i) = false → freeOp oj.op = true ∧ apart (ops := ops) oi oj = true) →
      T1 P n ops oi (fun S' H' => GT ops (i :: ac) G H' ∧ WG P n ops m (i :: dn) (i :: ac) G X S' H') S H → WG P n ops (m + 1) dn ac G X S H := by
  intro m
  induction m with
  | zero =>
    intro dn ac G S H fH hl hr hal hgt hmo _ w j oj hoj hrj
    obtain ⟨hi, hdi⟩ := ready_lt hr
    obtain ⟨hj, hdj⟩ := ready_lt hrj
    by_cases hji : j = i
    · subst hji
      rw [hoi] at hoj
      obtain rfl := Option.some.inj hoj
      exact w
    · exact (left_two hi hj hdi hdj hji hl).elim
  | succ m ih =>
    intro dn ac G S H fH hl hr hal hgt hmo hfr w j oj hoj hrj
    obtain ⟨hi, hdi⟩ := ready_lt hr
    obtain ⟨hj, hdj⟩ := ready_lt hrj
    by_cases hji : j = i
    · subst hji
      rw [hoi] at hoj
      obtain rfl := Option.some.inj hoj
      exact w
    · have hnb := not_blk hrj hdi hal
      obtain ⟨hf, hap⟩ := hfr j oj hoj hji hdj hnb
      have w1 : T1 P n ops oi (fun S' H' => T1 P n ops oj (fun S2 H2 => GT ops (j :: i :: ac) G H2 ∧ WG P n ops m (j :: i :: dn) (j :: i :: ac) G X S2 H2) S' H') S H :=
        T1_mono (fun S' H' y => y.2 j oj hoj (ready_more hrj hji)) w
      have w2 := swap_freeG hf hap fH w1
      have w3 : T1 P n ops oj (fun S' H' => Fin H' ∧ Ext H H' ∧ T1 P n ops oi (fun S2 H2 => GT ops (j :: i :: ac) G H2 ∧ WG P n ops m (j :: i :: dn) (j :: i :: ac) G X S2 H2) S' H') S H := by
        exact T1_mono (fun S' H' y => ⟨y.1, y.2.1, y.2.2⟩) (T1_fin w2 fH)
      refine T1_mono ?_ w3
      rintro S' H' ⟨f', hE, y⟩
      have hpd : ∀ k, el k (j :: i :: dn) = el k (i :: j :: dn) := fun k => by simp only [el_cons]; cases (k == j) <;> cases (k == i) <;> rfl
      have hpa : ∀ k, el k (j :: i :: ac) = true → el k (i :: j :: ac) = true := fun k => by
        simp only [el_cons, Bool.or_eq_true]
        rintro (h | h | h)
        · exact .inr (.inl h)
        · exact .inl h
        · exact .inr (.inr h)
      have hal' : ∀ k, el k (blk ops i) = true → el k (j :: dn) = false := fun k hk => by
        simp only [el_cons, hal k hk, Bool.or_false]
        cases hkj : (k == j) with
        | false => rfl
        | true => rw [beq_iff_eq] at hkj; subst hkj; rw [hk] at hnb; cases hnb
      have hgt' : GT ops (j :: ac) G H' := fun g hg2 a => hmo g hg2 H H' hE (hgt g hg2 (alive_less (fun k hk => by simp [el_cons, hk]) a))
      refine ⟨hgt', ?_⟩
      refine ih (j :: dn) (j :: ac) G S' H' f' (left_cons hj hdj hl) (ready_more hr (fun e => hji e.symm)) hal' hgt' hmo ?_ (T1_mono (fun S2 H2 z => ⟨GT_more hpa z.1, WG_perm m _ _ _ _ hpd hpa _ _ z.2⟩) y)
      intro k ok hok hki hdk hbk
      exact hfr k ok hok hki (by simp only [el_cons, Bool.or_eq_false_iff] at hdk; exact hdk.2) hbk
def okH (ops : Array Oper) (dn : List Nat) (i : Nat) : Bool :=
  ready ops dn i && (blk ops i).all (fun k => !el k dn) &&
  match ops[i]? with
  | some oi => (List.range ops.size).all fun j => j == i || el j dn || el j (blk ops i) || (match ops[j]? with | some oj => freeOp oj.op && apart (ops := ops) oi oj | none => true)
  | none => false
end
section
variable {P : Program} {n : Nat} {ops : Array Oper} {i : Nat} {d : Option Tmp} {op : Op} {ty : TypeId} {ps : String} {af : Array Edge} {S : Sl} {L : Pv} {h : AH} {mask : List Bool} {X : Sl → AH → Prop} {dn ac : List Nat}
theorem dw_effH {j : Nat} {want t : Bool} (hoi : ops[i]? = some ⟨d, op, ty, ps, af, some (j, want)⟩) (hok : okH ops dn i = true)
    (ht : ev n S (.tmp (((ops[j]?).bind (·.dst)).getD n)) = .bool t) (hb : t = want) (w : wpL P n ops [⟨d, op, ty, ps, af, none⟩] (fun S' L' h' => Ext (wl h (rmM mask L)) (wl h' (rmM mask L')) ∧ Dw P n ops mask X (i :: dn) (i :: ac) S' L' h') (fun _ _ _ _ => False) S L h) : Dw P n ops mask X dn ac S L h := by
  intro V G hG
  unfold okH at hok
  rw [hoi] at hok
  simp only [Bool.and_eq_true] at hok
  obtain ⟨⟨hr, hbl⟩, hap⟩ := hok
  obtain ⟨m, hm⟩ := left_pos hr
  obtain ⟨hi, hdi⟩ := ready_lt hr
  rw [hm]
  refine take_anyG hoi m dn ac G S (wl h L) (fin_wl V) hm hr ?_ ?_ (fun g hg => (hG g hg).2.1) ?_ ?_
  · intro x hx
    have := List.all_eq_true.1 hbl x ((el_mem _ _).1 hx)
    simpa using this
  · intro g hg _
    exact (hG g hg).2.1 _ _ (ext_rm V) (hG g hg).2.2
  · intro j oj hoj hji hdj hbj
    have hjl : j < ops.size := (Array.getElem?_eq_some_iff.1 hoj).1
    have := List.all_eq_true.1 hap j (by simpa using hjl)
    rw [hoj, hdj, hbj] at this
    simp only [Bool.or_false, Bool.or_eq_true, beq_iff_eq, Bool.and_eq_true] at this
    exact this.resolve_left hji
  · refine ⟨some t, by rw [ht]; rfl, fun _ => ?_, fun hn => absurd (congrArg some hb) hn⟩
    show opW P n ⟨d, op, ty, ps, af, none⟩ S (wl h L) _ noE
    refine opW_mono ?_ ?_ (w V)
    · rintro v H ⟨L', h', rfl, V', hE, hD⟩
      have hG' : ∀ g ∈ G, ((∀ H, g.2 H) ∨ (isLd ops g.1 = true ∧ el g.1 (i :: dn) = true)) ∧ (∀ H1 H2, Ext H1 H2 → g.2 H1 → g.2 H2) ∧ g.2 (wl h' (rmM mask L')) := by
        intro g hg
        obtain ⟨h1, h2, h3⟩ := hG g hg
        exact ⟨h1.imp id (fun e => ⟨e.1, by simp [el_cons, e.2]⟩), h2, h2 _ _ hE h3⟩
      refine ⟨fun g hg _ => (hG' g hg).2.1 _ _ (ext_rm V') (hG' g hg).2.2, ?_⟩
      have := hD V' G hG'
      rw [left_cons hi hdi hm] at this
      exact this
    · rintro v H ⟨L', h', rfl, V', y⟩; exact y
theorem dw_lastH {j : Nat} {want t : Bool} (hoi : ops[i]? = some ⟨d, op, ty, ps, af, some (j, want)⟩) (hok : okH ops dn i = true) (hl : okL ops dn i = true)
    (ht : ev n S (.tmp (((ops[j]?).bind (·.dst)).getD n)) = .bool t) (hb : t = want) (w : wpL P n ops [⟨d, op, ty, ps, af, none⟩] (fun S' L' h' => Dw P n ops mask X (i :: dn) (i :: ac) S' L' h') (fun _ _ _ _ => False) S L h) : Dw P n ops mask X dn ac S L h := by
  intro V G hG
  unfold okH at hok
  rw [hoi] at hok
  simp only [Bool.and_eq_true] at hok
  obtain ⟨⟨hr, hbl⟩, hap⟩ := hok
  obtain ⟨m, hm⟩ := left_pos hr
  obtain ⟨hi, hdi⟩ := ready_lt hr
  rw [hm]
  refine take_anyG hoi m dn ac G S (wl h L) (fin_wl V) hm hr ?_ ?_ (fun g hg => (hG g hg).2.1) ?_ ?_
  · intro x hx
    have := List.all_eq_true.1 hbl x ((el_mem _ _).1 hx)
    simpa using this
  · intro g hg _
    exact (hG g hg).2.1 _ _ (ext_rm V) (hG g hg).2.2
  · intro j oj hoj hji hdj hbj
    have hjl : j < ops.size := (Array.getElem?_eq_some_iff.1 hoj).1
    have := List.all_eq_true.1 hap j (by simpa using hjl)
    rw [hoj, hdj, hbj] at this
    simp only [Bool.or_false, Bool.or_eq_true, beq_iff_eq, Bool.and_eq_true] at this
    exact this.resolve_left hji
  · refine ⟨some t, by rw [ht]; rfl, fun _ => ?_, fun hn => absurd (congrArg some hb) hn⟩
    show opW P n ⟨d, op, ty, ps, af, none⟩ S (wl h L) _ noE
    refine opW_mono ?_ ?_ (w V)
    · rintro v H ⟨L', h', rfl, V', hD⟩
      -- the facts that are still asked hold everywhere
      have hdead : ∀ g ∈ G, (∀ H, g.2 H) ∨ ¬ alive ops (i :: ac) g.1 := by
        intro g hg
        rcases (hG g hg).1 with h1 | ⟨h1, h2⟩
        · exact .inl h1
        · right
          intro a
          have := List.all_eq_true.1 hl g.1 ((el_mem _ _).1 h2)
          rw [h1] at this
          simp only [Bool.not_true, Bool.false_or] at this
          have := a i this
          simp [el_cons] at this
      refine ⟨fun g hg a => ((hdead g hg).resolve_right (fun n => n a)) _, ?_⟩
      have hall : ∀ (m : Nat) (dn' ac' : List Nat) (S' : Sl) (H' : AH), (∀ k, el k (i :: ac) = true → el k ac' = true) → WG P n ops m dn' ac' [] X S' H' → WG P n ops m dn' ac' G X S' H' := by
        intro m
        induction m with
        | zero => intro dn' ac' S' H' _ w; exact w
        | succ m ih =>
          intro dn' ac' S' H' hsub w j oj hoj hrj
          refine T1_mono (fun S2 H2 y => ⟨fun g hg a => ?_, ih _ _ _ _ (fun k hk => by simp [el_cons, hsub k hk]) y.2⟩) (w j oj hoj hrj)
          exact ((hdead g hg).resolve_right (fun n => n (alive_less (fun k hk => by simp [el_cons, hsub k hk]) a))) _
      have := hD V' [] (fun g hg => by cases hg)
      rw [left_cons hi hdi hm] at this
      exact hall m _ _ _ _ (fun _ h => h) this
    · rintro v H ⟨L', h', rfl, V', y⟩; exact y
end
end Go.HL
/- Walks of the laws of rod: the chapter's examples hold. Conditions: as each theorem states. -/
namespace Go.Proofs.Ythphpbdmbmiaiaa
open Go Go.HL Go.Proofs Go.Wx Go.Rd
section
variable [Lvl]
set_option maxRecDepth 100000
theorem m0_hand : checkHandM mach0 ⟨[0, 1], []⟩ = 0 := by decide +kernel
theorem m0_lifts : liftsL mach0 ⟨[0, 1], []⟩ = [4, 3, 1, 0] := by decide +kernel
theorem m0_force : forceV mach0 ⟨[0, 1], []⟩ = 9 := by decide +kernel
theorem m0_hand2 : checkHandM mach0 ⟨[], [0]⟩ = 0 := by decide +kernel
theorem m0_chart : chartL mach0 [0] = [[0, 1, 2], [1]] := by decide +kernel
theorem m0_suspE : suspE mach0 (heard0 [0]) = 0 := by decide +kernel
theorem m0_suspL : suspL mach0 (heard0 [0]) = [1, 9] := by decide +kernel
theorem m0_testE : testE mach0 (heard0 [0]) = 0 := by decide +kernel
theorem m0_testN : testN mach0 (heard0 [0]) = 1 := by decide +kernel
theorem m0_testB : (testA mach0 (heard0 [0])).buttons = [1] := by decide +kernel
theorem m0_testO : (testA mach0 (heard0 [0])).on = [] := by decide +kernel
theorem m0_test : testA mach0 (heard0 [0]) = ⟨[1], []⟩ := by
  have h1 := m0_testB
  have h2 := m0_testO
  cases h : testA mach0 (heard0 [0]) with
  | mk b o => rw [h] at h1 h2; simp only at h1 h2; rw [h1, h2]
theorem hlen0 (l : List Int) (h : l.length < 2 ^ 40) : HLen (heard0 l) := ⟨by show 1 < 2 ^ 40; decide, fun x hx => by simp [heard0] at hx; subst hx; exact ⟨by show 1 < 2 ^ 40; decide, by show 0 < 2 ^ 40; decide, h⟩⟩
theorem rod_sounding (hph : Lvl.ph = true) (h : AH) : FnT Try.prog 28 #[] h (fun v _ => v = .bool true) := by
  have w0 : mach0.weights.length < 2 ^ 40 := by decide
  refine call_body Try.func28 rfl Try.ntmps28 rfl ?_
  refine xp_seq ?_
  refine xp_region rfl ?_
  refine op_pure (pv_assign (v := .bool _) rfl) ?_
  refine xp_seq ?_
  refine xp_region rfl ?_
  refine op_fn (caps := []) (vs := []) rfl rfl rfl (machine_ok h) ?_
  rintro _ h1 E1 ⟨AB1, AQ1, AL1, AW1, cB1, cQ1, cL1, cW1, rfl, M1⟩
  refine op_buildSlice (zc := [_]) (vs := [(0, .int .i64 _), (1, .int .i64 _)]) (cs := [_, _]) rfl rfl rfl rfl rfl rfl rfl fun b14 hb14 => ?_
  refine wp_norm [_] rfl ?_
  refine wp_pub 0 rfl rfl ?_
  intro h2 E2 p2
  refine wp_norm [_] rfl ?_
  refine op_fn (caps := []) (vs := [.slice _ _ _]) rfl rfl rfl (pressed_ok [0, 1] _ _ h2) ?_
  rintro _ h3 E3 rfl
  have R2 : Row h2 1 intC (some ⟨b14, 0, none⟩) [0, 1] := row_of_block (enc := intC) (m := 1) (l := [0, 1]) (fun _ _ => rfl) p2
  have H1 := Lifts_ok hph mach0 ⟨[0, 1], []⟩ AB1 AQ1 AL1 AW1 (some ⟨b14, 0, none⟩) none cB1 cQ1 cL1 cW1 2 0 h3 (M1.ext (Ext.trans E2 E3)) ⟨R2.ext E3, row_nil _ _⟩ w0 (by decide) (by decide)
  rw [m0_hand, m0_lifts] at H1
  refine op_fn (caps := []) (vs := [.agg #[.int .i64 _, .int .i64 _, .int .i64 _, .int .i64 _, .int .i64 _, .slice _ _ _, .slice _ _ _, .slice _ _ _, .slice _ _ _], .agg #[.slice _ _ _, .slice _ _ _]]) rfl rfl rfl (H1) ?_
  rintro _ h4 E4 ⟨_, rfl, A4, c4, rfl, S4⟩
  refine op_pure (pv_move (v := .tuple #[.slice _ _ _, .int .i64 _]) rfl) ?_
  refine op_pure (pv_of (v := .slice _ _ _) rfl) ?_
  refine op_pure (pv_of (v := .int .i64 _) rfl) ?_
  refine op_pure (pv_assign (v := .slice _ _ _) rfl) ?_
  refine op_pure (pv_assign (v := .int .i64 _) rfl) ?_
  refine xp_seq ?_
  refine xp_region rfl ?_
  refine op_fn (caps := []) (vs := []) rfl rfl rfl (machine_ok h4) ?_
  rintro _ h5 E5 ⟨AB2, AQ2, AL2, AW2, cB2, cQ2, cL2, cW2, rfl, M2⟩
  refine op_buildSlice (zc := [_]) (vs := [(0, .int .i64 _), (1, .int .i64 _)]) (cs := [_, _]) rfl rfl rfl rfl rfl rfl rfl fun b21 hb21 => ?_
  refine wp_norm [_, _] rfl ?_
  refine wp_pub 1 rfl rfl ?_
  intro h6 E6 p6
  refine wp_norm [_, _] rfl ?_
  refine op_fn (caps := []) (vs := [.slice _ _ _]) rfl rfl rfl (pressed_ok [0, 1] _ _ h6) ?_
  rintro _ h7 E7 rfl
  have R6 : Row h6 1 intC (some ⟨b21, 0, none⟩) [0, 1] := row_of_block (enc := intC) (m := 1) (l := [0, 1]) (fun _ _ => rfl) p6
  have H2 := Force_ok hph mach0 ⟨[0, 1], []⟩ AB2 AQ2 AL2 AW2 (some ⟨b21, 0, none⟩) none cB2 cQ2 cL2 cW2 2 0 h7 (M2.ext (Ext.trans E6 E7)) ⟨R6.ext E7, row_nil _ _⟩ w0 (by decide) (by decide)
  rw [m0_hand, m0_force] at H2
  refine op_fn (caps := []) (vs := [.agg #[.int .i64 _, .int .i64 _, .int .i64 _, .int .i64 _, .int .i64 _, .slice _ _ _, .slice _ _ _, .slice _ _ _, .slice _ _ _], .agg #[.slice _ _ _, .slice _ _ _]]) rfl rfl rfl (H2) ?_
  rintro _ h8 E8 rfl
  refine op_pure (pv_move (v := .tuple #[.int .i64 _, .int .i64 _]) rfl) ?_
  refine op_pure (pv_of (v := .int .i64 _) rfl) ?_
  refine op_pure (pv_of (v := .int .i64 _) rfl) ?_
  refine op_pure (pv_assign (v := .int .i64 _) rfl) ?_
  refine op_pure (pv_assign (v := .int .i64 _) rfl) ?_
  refine xp_seq ?_
  refine xp_region rfl ?_
  refine op_fn (caps := []) (vs := []) rfl rfl rfl (machine_ok h8) ?_
  rintro _ h9 E9 ⟨AB3, AQ3, AL3, AW3, cB3, cQ3, cL3, cW3, rfl, M3⟩
  refine op_buildSlice (zc := [_]) (vs := [(0, .int .i64 _)]) (cs := [_]) rfl rfl rfl rfl rfl rfl rfl fun b28 hb28 => ?_
  refine wp_norm [_, _, _] rfl ?_
  refine wp_pub 2 rfl rfl ?_
  intro h10 E10 p10
  refine wp_norm [_, _, _] rfl ?_
  have R10 : Row h10 1 intC (some ⟨b28, 0, none⟩) [0] := row_of_block (enc := intC) (m := 1) (l := [0]) (fun _ _ => rfl) p10
  have H3 := Chart_ok hph mach0 [0] AB3 AQ3 AL3 AW3 (some ⟨b28, 0, none⟩) cB3 cQ3 cL3 cW3 1 h10 (M3.ext E10) R10 w0 (by decide)
  rw [m0_hand2, m0_chart] at H3
  refine op_fn (caps := []) (vs := [.agg #[.int .i64 _, .int .i64 _, .int .i64 _, .int .i64 _, .int .i64 _, .slice _ _ _, .slice _ _ _, .slice _ _ _, .slice _ _ _], .slice _ _ _]) rfl rfl rfl (H3) ?_
  rintro _ h11 E11 ⟨_, rfl, S11⟩
  obtain ⟨cs11, A11, c11, rfl, R11, L11⟩ := SlX.els S11
  refine op_pure (pv_move (v := .tuple #[.slice _ _ _, .int .i64 _]) rfl) ?_
  refine op_pure (pv_of (v := .slice _ _ _) rfl) ?_
  refine op_pure (pv_of (v := .int .i64 _) rfl) ?_
  refine op_pure (pv_assign (v := .slice _ _ _) rfl) ?_
  refine op_pure (pv_assign (v := .int .i64 _) rfl) ?_
  refine xp_seq ?_
  refine xp_region rfl ?_
  refine op_fn (caps := []) (vs := []) rfl rfl rfl (machine_ok h11) ?_
  rintro _ h12 E12 ⟨AB4, AQ4, AL4, AW4, cB4, cQ4, cL4, cW4, rfl, M4⟩
  refine op_buildSlice (zc := [_]) (vs := [(0, .int .i64 _)]) (cs := [_]) rfl rfl rfl rfl rfl rfl rfl fun b34 hb34 => ?_
  refine wp_norm [_, _, _, _] rfl ?_
  refine wp_pub 3 rfl rfl ?_
  intro h13 E13 p13
  refine wp_norm [_, _, _, _] rfl ?_
  have R13 : Row h13 1 intC (some ⟨b34, 0, none⟩) [0] := row_of_block (enc := intC) (m := 1) (l := [0]) (fun _ _ => rfl) p13
  refine op_fn (caps := []) (vs := [.slice _ _ _]) rfl rfl rfl (sounded_ok [0] _ _ h13 R13) ?_
  rintro _ h14 E14 ⟨UA4, cU4, cs4, rfl, RU4, EU4⟩
  have H4 := Suspects_ok hph mach0 (heard0 [0]) (hlen0 _ (by decide)) AB4 AQ4 AL4 AW4 UA4 cB4 cQ4 cL4 cW4 cU4 cs4 h14 (M4.ext (Ext.trans E13 E14)) w0 RU4 EU4
  rw [m0_suspE, m0_suspL] at H4
  refine op_fn (caps := []) (vs := [.agg #[.int .i64 _, .int .i64 _, .int .i64 _, .int .i64 _, .int .i64 _, .slice _ _ _, .slice _ _ _, .slice _ _ _, .slice _ _ _], .slice _ _ _]) rfl rfl rfl (H4) ?_
  rintro _ h15 E15 ⟨_, rfl, A15, c15, rfl, S15⟩
  refine op_pure (pv_move (v := .tuple #[.slice _ _ _, .int .i64 _]) rfl) ?_
  refine op_pure (pv_of (v := .slice _ _ _) rfl) ?_
  refine op_pure (pv_of (v := .int .i64 _) rfl) ?_
  refine op_pure (pv_assign (v := .slice _ _ _) rfl) ?_
  refine op_pure (pv_assign (v := .int .i64 _) rfl) ?_
  refine xp_seq ?_
  refine xp_region rfl ?_
  refine op_fn (caps := []) (vs := []) rfl rfl rfl (machine_ok h15) ?_
  rintro _ h16 E16 ⟨AB5, AQ5, AL5, AW5, cB5, cQ5, cL5, cW5, rfl, M5⟩
  refine op_buildSlice (zc := [_]) (vs := [(0, .int .i64 _)]) (cs := [_]) rfl rfl rfl rfl rfl rfl rfl fun b41 hb41 => ?_
  refine wp_norm [_, _, _, _, _] rfl ?_
  refine wp_pub 4 rfl rfl ?_
  intro h17 E17 p17
  refine wp_norm [_, _, _, _, _] rfl ?_
  have R17 : Row h17 1 intC (some ⟨b41, 0, none⟩) [0] := row_of_block (enc := intC) (m := 1) (l := [0]) (fun _ _ => rfl) p17
  refine op_fn (caps := []) (vs := [.slice _ _ _]) rfl rfl rfl (sounded_ok [0] _ _ h17 R17) ?_
  rintro _ h18 E18 ⟨UA5, cU5, cs5, rfl, RU5, EU5⟩
  have H5 := Test_ok hph mach0 (heard0 [0]) (hlen0 _ (by decide)) AB5 AQ5 AL5 AW5 UA5 cB5 cQ5 cL5 cW5 cU5 cs5 h18 (M5.ext (Ext.trans E17 E18)) w0 RU5 EU5
  rw [m0_testE, m0_testN, m0_test] at H5
  refine op_fn (caps := []) (vs := [.agg #[.int .i64 _, .int .i64 _, .int .i64 _, .int .i64 _, .int .i64 _, .slice _ _ _, .slice _ _ _, .slice _ _ _, .slice _ _ _], .slice _ _ _]) rfl rfl rfl (H5) ?_
  rintro _ h19 E19 ⟨_, rfl, V19⟩
  obtain ⟨HA, OA, cH, cO, rfl, RH⟩ := HandV.open V19
  refine op_pure (pv_move (v := .tuple #[.agg #[.slice _ _ _, .slice _ _ _], .int .i64 _, .int .i64 _]) rfl) ?_
  refine op_pure (pv_of (v := .agg #[.slice _ _ _, .slice _ _ _]) rfl) ?_
  refine op_pure (pv_of (v := .int .i64 _) rfl) ?_
  refine op_pure (pv_of (v := .int .i64 _) rfl) ?_
  refine op_alloc (cs := [_, _]) rfl rfl fun b9 hb9 => ?_
  refine wp_norm [_, _, _, _, _, _] rfl ?_
  refine op_storeP 5 (v := .agg #[.slice _ _ _, .slice _ _ _]) (vs := [_, _]) (c' := [_, _]) rfl rfl rfl rfl rfl rfl rfl rfl rfl ?_
  refine wp_norm [_, _, _, _, _, _] rfl ?_
  refine op_pure (pv_assign (v := .int .i64 _) rfl) ?_
  refine op_pure (pv_assign (v := .int .i64 _) rfl) ?_
  refine xp_seq ?_
  refine xp_dw [] rfl rfl rfl ?_
  refine dw_pure (i := 0) rfl (by decide +kernel) (pv_move (v := .int .i64 _) rfl) ?_
  refine dw_pure (i := 1) rfl (by decide +kernel) (pv_of (v := .bool _) rfl) ?_
  refine dw_pure (i := 2) rfl (by decide +kernel) (pv_move (v := .bool _) rfl) ?_
  refine dw_pureG (i := 3) rfl (by decide +kernel) rfl rfl (pv_move (v := .int .i64 _) rfl) ?_
  refine dw_pureG (i := 4) rfl (by decide +kernel) rfl rfl (pv_of (v := .bool _) rfl) ?_
  refine dw_pure (i := 5) rfl (by decide +kernel) (pv_pickT rfl rfl (v := .bool _) rfl) ?_
  refine dw_pure (i := 6) rfl (by decide +kernel) (pv_move (v := .bool _) rfl) ?_
  refine dw_pureG (i := 7) rfl (by decide +kernel) rfl rfl (pv_move (v := .int .i64 _) rfl) ?_
  refine dw_pureG (i := 8) rfl (by decide +kernel) rfl rfl (pv_of (v := .bool _) rfl) ?_
  refine dw_pure (i := 9) rfl (by decide +kernel) (pv_pickT rfl rfl (v := .bool _) rfl) ?_
  refine dw_pure (i := 10) rfl (by decide +kernel) (pv_move (v := .bool _) rfl) ?_
  refine dw_pureG (i := 11) rfl (by decide +kernel) rfl rfl (pv_move (v := .int .i64 _) rfl) ?_
  refine dw_pureG (i := 12) rfl (by decide +kernel) rfl rfl (pv_of (v := .bool _) rfl) ?_
  refine dw_pure (i := 13) rfl (by decide +kernel) (pv_pickT rfl rfl (v := .bool _) rfl) ?_
  refine dw_pure (i := 14) rfl (by decide +kernel) (pv_move (v := .bool _) rfl) ?_
  refine dw_pureG (i := 15) rfl (by decide +kernel) rfl rfl (pv_move (v := .int .i64 _) rfl) ?_
  refine dw_pureG (i := 16) rfl (by decide +kernel) rfl rfl (pv_of (v := .bool _) rfl) ?_
  refine dw_pure (i := 17) rfl (by decide +kernel) (pv_pickT rfl rfl (v := .bool _) rfl) ?_
  refine dw_pure (i := 18) rfl (by decide +kernel) (pv_move (v := .bool _) rfl) ?_
  refine dw_pureG (i := 19) rfl (by decide +kernel) rfl rfl (pv_move (v := .int .i64 _) rfl) ?_
  refine dw_pureG (i := 20) rfl (by decide +kernel) rfl rfl (pv_of (v := .bool _) rfl) ?_
  refine dw_pure (i := 21) rfl (by decide +kernel) (pv_pickT rfl rfl (v := .bool _) rfl) ?_
  refine dw_pure (i := 22) rfl (by decide +kernel) (pv_move (v := .bool _) rfl) ?_
  refine dw_pureG (i := 23) rfl (by decide +kernel) rfl rfl (pv_move (v := .int .i64 _) rfl) ?_
  refine dw_pureG (i := 24) rfl (by decide +kernel) rfl rfl (pv_of (v := .bool _) rfl) ?_
  refine dw_pure (i := 25) rfl (by decide +kernel) (pv_pickT rfl rfl (v := .bool _) rfl) ?_
  refine dw_pure (i := 26) rfl (by decide +kernel) (pv_move (v := .bool _) rfl) ?_
  refine dw_pureG (i := 27) rfl (by decide +kernel) rfl rfl (pv_move (v := .slice _ _ _) rfl) ?_
  refine dw_lastH (i := 28) rfl (by decide +kernel) (by decide +kernel) rfl rfl ?_
  refine op_buildSlice (zc := [_]) (vs := [(0, .int .i64 _), (1, .int .i64 _), (2, .int .i64 _), (3, .int .i64 _)]) (cs := [_, _, _, _]) rfl rfl rfl rfl rfl rfl rfl fun b75 hb75 => ?_
  refine dw_norm [_, _, _, _, _, _, _] rfl ?_
  refine dw_pub 6 rfl ?_
  intro g1 F1 q1
  refine dw_norm [_, _, _, _, _, _, _] rfl ?_
  refine dw_lastH (i := 29) rfl (by decide +kernel) (by decide +kernel) rfl rfl ?_
  refine op_fn (caps := []) (vs := [.slice _ _ _, .slice _ _ _]) rfl rfl rfl (sameInts_ok [4, 3, 1, 0] [4, 3, 1, 0] _ _ _ _ g1 (S4.ext (Ext.trans (Ext.trans (Ext.trans (Ext.trans (Ext.trans (Ext.trans (Ext.trans (Ext.trans (Ext.trans (Ext.trans (Ext.trans (Ext.trans (Ext.trans (Ext.trans (Ext.trans E5 E6) E7) E8) E9) E10) E11) E12) E13) E14) E15) E16) E17) E18) E19) F1)) (row_of_block (enc := intC) (m := 1) (l := [4, 3, 1, 0]) (fun _ _ => rfl) q1) (by decide)) ?_
  rintro _ g2 F2 rfl
  refine dw_pure (i := 30) rfl (by decide +kernel) (pv_pickT rfl rfl (v := .bool _) rfl) ?_
  refine dw_pure (i := 31) rfl (by decide +kernel) (pv_move (v := .bool _) rfl) ?_
  refine dw_pureG (i := 32) rfl (by decide +kernel) rfl rfl (pv_move (v := .slice _ _ _) rfl) ?_
  refine dw_lastH (i := 33) rfl (by decide +kernel) (by decide +kernel) rfl rfl ?_
  refine op_buildSlice (zc := [_]) (vs := [(0, .int .i64 _), (1, .int .i64 _), (2, .int .i64 _)]) (cs := [_, _, _]) rfl rfl rfl rfl rfl rfl rfl fun b80 hb80 => ?_
  refine dw_norm [_, _, _, _, _, _, _, _] rfl ?_
  refine dw_lastH (i := 34) rfl (by decide +kernel) (by decide +kernel) rfl rfl ?_
  refine op_buildSlice (zc := [_]) (vs := [(0, .int .i64 _)]) (cs := [_]) rfl rfl rfl rfl rfl rfl rfl fun b81 hb81 => ?_
  refine dw_norm [_, _, _, _, _, _, _, _, _] rfl ?_
  refine dw_lastH (i := 35) rfl (by decide +kernel) (by decide +kernel) rfl rfl ?_
  refine op_buildSlice (zc := [_]) (vs := [(0, .slice _ _ _), (1, .slice _ _ _)]) (cs := [_, _]) rfl rfl rfl rfl rfl rfl rfl fun b82 hb82 => ?_
  refine dw_norm [_, _, _, _, _, _, _, _, _, _] rfl ?_
  refine dw_pub 7 rfl ?_
  intro g3 F3 q3
  refine dw_norm [_, _, _, _, _, _, _, _, _, _] rfl ?_
  refine dw_pub 8 rfl ?_
  intro g4 F4 q4
  refine dw_norm [_, _, _, _, _, _, _, _, _, _] rfl ?_
  refine dw_pub 9 rfl ?_
  intro g5 F5 q5
  refine dw_norm [_, _, _, _, _, _, _, _, _, _] rfl ?_
  have RL : Row g5 1 id (some ⟨b82, 0, none⟩) [[.slice (some ⟨b80, 0, none⟩) 3 3], [.slice (some ⟨b81, 0, none⟩) 1 1]] := row_of_block (enc := id) (m := 1) (l := [[.slice (some ⟨b80, 0, none⟩) 3 3], [.slice (some ⟨b81, 0, none⟩) 1 1]]) (fun x hx => by simp at hx; rcases hx with rfl | rfl <;> rfl) q5
  have EL : Els g5 TL [[0, 1, 2], [1]] [[.slice (some ⟨b80, 0, none⟩) 3 3], [.slice (some ⟨b81, 0, none⟩) 1 1]] := by
    refine ⟨rfl, fun i x c h1 h2 => ?_⟩
    match i, h1, h2 with
    | 0, h1, h2 => cases h1; cases h2; exact ⟨_, rfl, some ⟨b80, 0, none⟩, 3, rfl, (row_of_block (enc := intC) (m := 1) (l := [0, 1, 2]) (fun _ _ => rfl) q3).ext (Ext.trans F4 F5)⟩
    | 1, h1, h2 => cases h1; cases h2; exact ⟨_, rfl, some ⟨b81, 0, none⟩, 1, rfl, (row_of_block (enc := intC) (m := 1) (l := [1]) (fun _ _ => rfl) q4).ext F5⟩
    | i + 2, h1, h2 => simp at h1
  refine dw_lastH (i := 36) rfl (by decide +kernel) (by decide +kernel) rfl rfl ?_
  refine op_fn (caps := []) (vs := [.slice _ _ _, .slice _ _ _]) rfl rfl rfl (sameLists_ok [[0, 1, 2], [1]] [[0, 1, 2], [1]] _ _ _ _ cs11 _ g5 (R11.ext (Ext.trans (Ext.trans (Ext.trans (Ext.trans (Ext.trans (Ext.trans (Ext.trans (Ext.trans (Ext.trans (Ext.trans (Ext.trans (Ext.trans E12 E13) E14) E15) E16) E17) E18) E19) F1) F2) F3) F4) F5)) (L11.ext TL.mono (Ext.trans (Ext.trans (Ext.trans (Ext.trans (Ext.trans (Ext.trans (Ext.trans (Ext.trans (Ext.trans (Ext.trans (Ext.trans (Ext.trans E12 E13) E14) E15) E16) E17) E18) E19) F1) F2) F3) F4) F5)) RL EL (by decide) (by decide)) ?_
  rintro _ g6 F6 rfl
  refine dw_pure (i := 37) rfl (by decide +kernel) (pv_pickT rfl rfl (v := .bool _) rfl) ?_
  refine dw_pure (i := 38) rfl (by decide +kernel) (pv_move (v := .bool _) rfl) ?_
  refine dw_pureG (i := 39) rfl (by decide +kernel) rfl rfl (pv_move (v := .slice _ _ _) rfl) ?_
  refine dw_lastH (i := 40) rfl (by decide +kernel) (by decide +kernel) rfl rfl ?_
  refine op_buildSlice (zc := [_]) (vs := [(0, .int .i64 _), (1, .int .i64 _)]) (cs := [_, _]) rfl rfl rfl rfl rfl rfl rfl fun b87 hb87 => ?_
  refine dw_norm [_, _, _, _, _, _, _, _, _, _, _] rfl ?_
  refine dw_pub 10 rfl ?_
  intro g7 F7 q7
  refine dw_norm [_, _, _, _, _, _, _, _, _, _, _] rfl ?_
  refine dw_lastH (i := 41) rfl (by decide +kernel) (by decide +kernel) rfl rfl ?_
  refine op_fn (caps := []) (vs := [.slice _ _ _, .slice _ _ _]) rfl rfl rfl (sameInts_ok [1, 9] [1, 9] _ _ _ _ g7 (S15.ext (Ext.trans (Ext.trans (Ext.trans (Ext.trans (Ext.trans (Ext.trans (Ext.trans (Ext.trans (Ext.trans (Ext.trans E16 E17) E18) E19) F1) F2) F3) F4) F5) F6) F7)) (row_of_block (enc := intC) (m := 1) (l := [1, 9]) (fun _ _ => rfl) q7) (by decide)) ?_
  rintro _ g8 F8 rfl
  refine dw_pure (i := 42) rfl (by decide +kernel) (pv_pickT rfl rfl (v := .bool _) rfl) ?_
  refine dw_pure (i := 43) rfl (by decide +kernel) (pv_move (v := .bool _) rfl) ?_
  refine dw_loadG (i := 44) rfl (by decide +kernel) rfl rfl ?_
  refine op_loadPA 5 (vs := [.slice _ _ _, .slice _ _ _]) rfl rfl rfl rfl rfl ?_
  refine dw_effH (i := 45) rfl (by decide +kernel) rfl rfl ?_
  refine op_buildSlice (zc := [_]) (vs := [(0, .int .i64 _)]) (cs := [_]) rfl rfl rfl rfl rfl rfl rfl fun b92 hb92 => ?_
  refine ⟨ext_new hb92 _, ?_⟩
  refine dw_norm [_, _, _, _, _, _, _, _, _, _, _, _] rfl ?_
  refine dw_pub 11 rfl ?_
  intro g9 F9 q9
  refine dw_norm [_, _, _, _, _, _, _, _, _, _, _, _] rfl ?_
  refine dw_effH (i := 46) rfl (by decide +kernel) rfl rfl ?_
  refine op_fn (caps := []) (vs := [.slice _ _ _]) rfl rfl rfl (pressed_ok [1] _ _ g9) ?_
  rintro _ g10 F10 rfl
  refine ⟨ext_wlm F10 _, ?_⟩
  refine dw_lastH (i := 47) rfl (by decide +kernel) (by decide +kernel) rfl rfl ?_
  refine op_fn (caps := []) (vs := [.agg _, .agg _]) rfl rfl rfl (sameHands_ok ⟨[1], []⟩ ⟨[1], []⟩ _ _ _ _ _ _ _ _ g10 (RH.ext (Ext.trans (Ext.trans (Ext.trans (Ext.trans (Ext.trans (Ext.trans (Ext.trans (Ext.trans (Ext.trans F1 F2) F3) F4) F5) F6) F7) F8) F9) F10)) ⟨(row_of_block (enc := intC) (m := 1) (l := [1]) (fun _ _ => rfl) q9).ext F10, row_nil _ _⟩ (by decide) (by decide)) ?_
  rintro _ g11 F11 rfl
  refine dw_pure (i := 48) rfl (by decide +kernel) (pv_pickT rfl rfl (v := .bool _) rfl) ?_
  refine dw_pure (i := 49) rfl (by decide +kernel) (pv_assign (v := .bool _) rfl) ?_
  refine dw_end rfl ?_
  refine xp_ret ?_
  refine res_list (vs := [_]) Try.results28 ⟨resV_tmp rfl rfl, trivial⟩ fun V => ?_
  exact ⟨(Ext.trans (Ext.trans (Ext.trans (Ext.trans (Ext.trans (Ext.trans (Ext.trans (Ext.trans (Ext.trans (Ext.trans (Ext.trans (Ext.trans (Ext.trans (Ext.trans (Ext.trans (Ext.trans (Ext.trans (Ext.trans (Ext.trans (Ext.trans (Ext.trans (Ext.trans (Ext.trans (Ext.trans (Ext.trans (Ext.trans (Ext.trans (Ext.trans (Ext.trans (Ext.trans E1 E2) E3) E4) E5) E6) E7) E8) E9) E10) E11) E12) E13) E14) E15) E16) E17) E18) E19) F1) F2) F3) F4) F5) F6) F7) F8) F9) F10) F11) (ext_wl V)), rfl⟩
end
end Go.Proofs.Ythphpbdmbmiaiaa
/- The own logic, part GQ: quotients and remainders of ints. Conditions: none. -/
namespace Go.HL
open Go
variable [Lvl]
section
variable {P : Program} {n : Nat} {d : Option Tmp} {ty : TypeId} {ps : String} {af : Array Edge} {S : Sl} {t u : TypeId} {x y : Operand}
theorem pv_remT {a b : Int} (hx : ev n S x = .int .i64 a) (hy : ev n S y = .int .i64 b) (hb : b ≠ 0) :
    pev P (execOp (ev n S) ⟨d, .binOp .rem t x y u, ty, ps, af, none⟩) = some (.value (.int .i64 (a.tmod b))) := by
  simp only [execOp, hx, hy, binOp, Op.intDiv, if_neg hb]
  rfl
theorem pv_quoT {a b c : Int} (hx : ev n S x = .int .i64 a) (hy : ev n S y = .int .i64 b) (hb : b ≠ 0) (hc : a.tdiv b = c) (h : -2 ^ 63 ≤ c ∧ c < 2 ^ 63) :
    pev P (execOp (ev n S) ⟨d, .binOp .quo t x y u, ty, ps, af, none⟩) = some (.value (.int .i64 c)) := by
  subst hc
  have e : IntKind.wrap .i64 (a.tdiv b) = a.tdiv b := IntWalk.i64_in _ ⟨by omega, by omega⟩
  simp only [execOp, hx, hy, binOp, Op.intDiv, if_neg hb, e]
  rfl
end
end Go.HL
/- Plain: other numbers of rods and levers, another order of pins. Conditions: none. -/
namespace Go.Rd
open Go Go.HL Go.Wx
variable [Lvl]
/-- Rods renamed by s. -/
def renL (s : Int → Int) (l : LinkP) : LinkP := ⟨s l.frm, s l.to, l.reg, l.lag⟩
structure RenR (s : Int → Int) (m m' : MachP) : Prop where
  rods : m'.rods = m.rods
  bd : ∀ r, 0 ≤ r → r < m.rods → 0 ≤ s r ∧ s r < m.rods
  btn : m'.buttons = m.buttons.map s
  links : m'.links = m.links.map (renL s)
theorem getD_map {l : List Int} {s : Int → Int} {i : Nat} (h : i < l.length) : (l.map s).getD i 0 = s (l.getD i 0) := by
  simp [List.getD_eq_getElem?_getD, List.getElem?_eq_getElem h]
theorem ren_le {s : Int → Int} {m m' : MachP} {a : HandP} {depth : Int} (M : MOK m) (F : Fit m a) (F' : Fit m' a) (R : RenR s m m') (hd : 0 ≤ depth) {r : Int} (h0 : 0 ≤ r) (h1 : r < m.rods) : turnF m a depth r ≤ turnF m' a depth (s r) := by
  have c := turned_clo F' hd
  have key := turned_least F (depth := depth) (f := fun r => if r < m.rods then turnF m' a depth (s r) else depth) ?_ r h0
  · simpa [h1] using key
  · refine ⟨fun r hr => ?_, fun b hb => ?_, fun l hl ha => ?_⟩
    · show 0 ≤ if r < m.rods then _ else _
      split
      · rename_i h; exact c.zero _ (R.bd r hr h).1
      · exact hd
    · have hbl := F.hb b hb
      have hbi : b.toNat < m.buttons.length := by omega
      have hbr := getD_mem_ge M.btn hbi
      show depth ≤ if m.buttons.getD b.toNat 0 < m.rods then _ else _
      rw [if_pos hbr.2]
      have := c.press b hb
      rw [R.btn, getD_map hbi] at this
      exact this
    · obtain ⟨f1, f2, _⟩ := M.link l hl
      show (if l.frm < m.rods then _ else _) - l.lag ≤ if l.to < m.rods then _ else _
      rw [if_pos f1.2, if_pos f2.2]
      exact c.link (renL s l) (by rw [R.links]; exact List.mem_map_of_mem hl) ha
/-- Renamed, and back. -/
structure Inv (s t : Int → Int) (n : Int) : Prop where
  sb : ∀ r, 0 ≤ r → r < n → 0 ≤ s r ∧ s r < n
  tb : ∀ r, 0 ≤ r → r < n → 0 ≤ t r ∧ t r < n
  ts : ∀ r, 0 ≤ r → r < n → t (s r) = r
  st : ∀ r, 0 ≤ r → r < n → s (t r) = r
theorem ren_back {s t : Int → Int} {m m' : MachP} (M : MOK m) (I : Inv s t m.rods) (R : RenR s m m') : RenR t m' m := by
  refine ⟨R.rods.symm, by rw [R.rods]; exact I.tb, ?_, ?_⟩
  · rw [R.btn, List.map_map]
    symm
    have : ∀ b ∈ m.buttons, (t ∘ s) b = b := fun b hb => by have := M.btn b hb; exact I.ts b this.1 this.2
    rw [List.map_congr_left this, List.map_id']
  · rw [R.links, List.map_map]
    symm
    have : ∀ l ∈ m.links, (renL t ∘ renL s) l = l := fun l hl => by
      obtain ⟨f1, f2, _⟩ := M.link l hl
      show renL t (renL s l) = l
      unfold renL
      rw [I.ts _ f1.1 f1.2, I.ts _ f2.1 f2.2]
    rw [List.map_congr_left this, List.map_id']
theorem ren_turn {s t : Int → Int} {m m' : MachP} {a : HandP} {depth : Int} (M : MOK m) (M' : MOK m') (F : Fit m a) (F' : Fit m' a) (I : Inv s t m.rods) (R : RenR s m m') (hd : 0 ≤ depth) {r : Int} (h0 : 0 ≤ r) (h1 : r < m.rods) : turnF m' a depth (s r) = turnF m a depth r := by
  have h2 := I.sb r h0 h1
  have e1 := ren_le M F F' R hd h0 h1
  have e2 := ren_le M' F' F (ren_back M I R) hd h2.1 (by rw [R.rods]; exact h2.2)
  rw [I.ts r h0 h1] at e2
  omega
/-- Levers renamed too; pins in any order. -/
def renP (s v : Int → Int) (p : PinP) : PinP := ⟨s p.rod, v p.lever, p.lag⟩
theorem ren_lift {s t v w : Int → Int} {m m' : MachP} {a : HandP} {depth : Int} (M : MOK m) (M' : MOK m') (F : Fit m a) (F' : Fit m' a) (I : Inv s t m.rods) (J : Inv v w m.levers) (R : RenR s m m') (hl : m'.levers = m.levers)
    (hp : ∀ q, q ∈ m'.pins ↔ ∃ p ∈ m.pins, q = renP s v p) (hd : 0 ≤ depth) {x : Int} (h0 : 0 ≤ x) (h1 : x < m.levers) : liftF m' a depth (v x) = liftF m a depth x := by
  have hx := J.sb x h0 h1
  have key : ∀ z, liftF m' a depth (v x) ≤ z ↔ liftF m a depth x ≤ z := by
    intro z
    rw [liftF_iff m' a depth hx.1 (by rw [hl]; exact hx.2) (fun p hp2 => (M'.pin p hp2).2.1.1), liftF_iff m a depth h0 h1 (fun p hp2 => (M.pin p hp2).2.1.1)]
    constructor
    · rintro ⟨z0, k⟩
      refine ⟨z0, fun p hpm e => ?_⟩
      have := k (renP s v p) ((hp _).2 ⟨p, hpm, rfl⟩) (by show v p.lever = v x; rw [e])
      obtain ⟨q1, _, _⟩ := M.pin p hpm
      have e2 := ren_turn M M' F F' I R hd q1.1 q1.2
      rw [← e2]
      exact this
    · rintro ⟨z0, k⟩
      refine ⟨z0, fun q hq e => ?_⟩
      obtain ⟨p, hpm, rfl⟩ := (hp q).1 hq
      obtain ⟨q1, q2, _⟩ := M.pin p hpm
      have e3 : p.lever = x := by
        have e' : v p.lever = v x := e
        rw [← J.ts p.lever q2.1 q2.2, e', J.ts x h0 h1]
      have := k p hpm e3
      show turnF m' a depth (s p.rod) - p.lag ≤ z
      rw [ren_turn M M' F F' I R hd q1.1 q1.2]
      exact this
  have a1 := (key (liftF m' a depth (v x))).1 (Int.le_refl _)
  have a2 := (key (liftF m a depth x)).2 (Int.le_refl _)
  omega
/-- An order gives such a renaming. -/
def ordF (o : List Int) (r : Int) : Int := o.getD r.toNat 0
def ordB (o : List Int) (r : Int) : Int := (o.idxOf r : Nat)
theorem ord_inv {o : List Int} {n : Nat} (O : Order o n) : Inv (ordF o) (ordB o) n := by
  have g : ∀ i, i < n → o.getD i 0 = ((ordN o i : Nat) : Int) ∧ ordN o i < n := fun i hi => by
    obtain ⟨h1, h2⟩ := O.ordN hi
    rw [List.getD_eq_getElem?_getD, h1]
    exact ⟨rfl, h2⟩
  have mem : ∀ r : Int, 0 ≤ r → r < n → r ∈ o := by
    intro r h0 h1
    obtain ⟨i, hi, e⟩ := inj_surj n (ordN o) (fun i hi => (O.ordN hi).2) (fun i k hi hk => O.ordN_inj hi hk) r.toNat (by omega)
    have h2 := (O.ordN hi).1
    rw [e, Int.toNat_of_nonneg h0] at h2
    exact List.mem_of_getElem? h2
  have back : ∀ r : Int, 0 ≤ r → r < n → 0 ≤ ordB o r ∧ ordB o r < n ∧ ordF o (ordB o r) = r := by
    intro r h0 h1
    have hm := mem r h0 h1
    have hi := List.idxOf_lt_length_of_mem hm
    rw [O.len] at hi
    refine ⟨by unfold ordB; omega, by unfold ordB; omega, ?_⟩
    unfold ordF ordB
    rw [Int.toNat_natCast, List.getD_eq_getElem?_getD, List.getElem?_eq_getElem (by rw [O.len]; exact hi)]
    simp
  have fwd : ∀ r : Int, 0 ≤ r → r < n → 0 ≤ ordF o r ∧ ordF o r < n := by
    intro r h0 h1
    obtain ⟨e, h⟩ := g r.toNat (by omega)
    unfold ordF
    rw [e]
    omega
  refine ⟨fwd, fun r h0 h1 => ⟨(back r h0 h1).1, (back r h0 h1).2.1⟩, ?_, fun r h0 h1 => (back r h0 h1).2.2⟩
  intro r h0 h1
  obtain ⟨f0, f1⟩ := fwd r h0 h1
  obtain ⟨b0, b1, b2⟩ := back _ f0 f1
  have e1 := g r.toNat (by omega)
  have e2 := g (ordB o (ordF o r)).toNat (by omega)
  have e3 : ordN o (ordB o (ordF o r)).toNat = ordN o r.toNat := by
    have : o.getD (ordB o (ordF o r)).toNat 0 = o.getD r.toNat 0 := b2
    rw [e1.1, e2.1] at this
    omega
  have := O.ordN_inj (by omega) (by omega) e3
  omega
end Go.Rd
/- Plain: sums in any order; rods that nothing turns. Conditions: none. -/
namespace Go.Rd
open Go Go.HL Go.Wx
variable [Lvl]
def sumF (f : Nat → Int) : Nat → Int
  | 0 => 0
  | k + 1 => sumF f k + f k
theorem sumF_congr {f g : Nat → Int} : ∀ {n : Nat}, (∀ i, i < n → f i = g i) → sumF f n = sumF g n
  | 0, _ => rfl
  | n + 1, h => by rw [sumF, sumF, sumF_congr (n := n) (fun i hi => h i (by omega)), h n (by omega)]
theorem sumF_range (f : Nat → Int) : ∀ n, sumF f n = ((List.range n).map f).sum
  | 0 => rfl
  | n + 1 => by rw [sumF, sumF_range f n, List.range_succ, List.map_append, List.sum_append_int]; simp
theorem perm_sum {l l' : List Int} (p : l.Perm l') : l.sum = l'.sum := by
  induction p with
  | nil => rfl
  | cons x _ ih => simp only [List.sum_cons, ih]
  | swap x y l => simp only [List.sum_cons]; omega
  | trans _ _ h1 h2 => rw [h1, h2]
theorem nodup_perm : ∀ (n : Nat) (l : List Nat), l.Nodup → (∀ x ∈ l, x < n) → l.length = n → l.Perm (List.range n)
  | 0, l, _, _, h => by rw [List.length_eq_zero_iff.1 h]; exact List.Perm.refl _
  | n + 1, l, nd, hb, hl => by
    have hn : n ∈ l := by
      apply Classical.byContradiction
      intro hno
      have := nodup_len n l nd (fun x hx => by
        have h1 := hb x hx
        have h2 : x ≠ n := fun e => hno (e ▸ hx)
        omega)
      omega
    have h1 := nodup_perm n (l.erase n) (nd.erase n) (fun x hx => by
      have h2 := hb x (List.mem_of_mem_erase hx)
      have h3 : x ≠ n := fun e => by subst e; exact (List.Nodup.not_mem_erase nd) hx
      omega) (by rw [List.length_erase_of_mem hn]; omega)
    rw [List.range_succ]
    exact (List.perm_cons_erase hn).trans ((List.Perm.cons n h1).trans (List.perm_append_comm (l₁ := [n]) (l₂ := List.range n)))
theorem sumF_ord {o : List Int} {n : Nat} (O : Order o n) (f : Nat → Int) : sumF (fun i => f (ordN o i)) n = sumF f n := by
  rw [sumF_range, sumF_range]
  have p := nodup_perm n ((List.range n).map (ordN o)) (by
    rw [List.nodup_iff_pairwise_ne, List.pairwise_map]
    refine List.Pairwise.imp_of_mem ?_ (List.nodup_range (n := n))
    intro a b ha hb hne e
    exact hne (O.ordN_inj (by simpa using ha) (by simpa using hb) e)) (fun x hx => by
    obtain ⟨i, hi, rfl⟩ := List.mem_map.1 hx
    exact (O.ordN (by simpa using hi)).2) (by simp)
  have := perm_sum (p.map f)
  rw [List.map_map] at this
  exact this
/-- A rod that is not there does not turn. -/
theorem turn_out {m : MachP} {a : HandP} {depth : Int} (M : MOK m) (F : Fit m a) (hd : 0 ≤ depth) {r : Int} (h : m.rods ≤ r) : turnF m a depth r = 0 := by
  have hr := M.rods
  have c := turned_clo F hd
  have key := turned_least F (depth := depth) (f := fun r => if r < m.rods then turnF m a depth r else 0) ?_ r (by omega)
  · have h2 : ¬ r < m.rods := by omega
    simp only [if_neg h2] at key
    have := c.zero r (by omega)
    omega
  · refine ⟨fun r hr => ?_, fun b hb => ?_, fun l hl ha => ?_⟩
    · show 0 ≤ if r < m.rods then _ else _
      split
      · exact c.zero r hr
      · exact Int.le_refl _
    · have hbl := F.hb b hb
      have hbr := getD_mem_ge M.btn (i := b.toNat) (by omega)
      show depth ≤ if m.buttons.getD b.toNat 0 < m.rods then _ else _
      rw [if_pos hbr.2]
      exact c.press b hb
    · obtain ⟨f1, f2, _⟩ := M.link l hl
      show (if l.frm < m.rods then _ else _) - l.lag ≤ if l.to < m.rods then _ else _
      rw [if_pos f1.2, if_pos f2.2]
      exact c.link l hl ha
theorem sumF_split (f : Nat → Int) (n : Nat) : ∀ k, (∀ i, n ≤ i → f i = 0) → sumF f (n + k) = sumF f n
  | 0, _ => rfl
  | k + 1, h => by rw [← Nat.add_assoc, sumF, sumF_split f n k h, h (n + k) (by omega)]; omega
end Go.Rd
/- Plain: buttons that are pressed down less deep. Conditions: none. -/
namespace Go.Rd
open Go Go.HL Go.Wx
variable [Lvl]
end Go.Rd
/- Walks: machines and hands that are made of numbers, copies. Conditions: as each theorem states. -/
namespace Go.Proofs.Ythphpbdmbmiaiaa
open Go Go.HL Go.Proofs Go.Wx Go.Rd
section
variable [Lvl]
set_option maxRecDepth 100000
theorem tmod_gt (x : Int) {n : Int} (hn : 0 < n) : -n < x.tmod n := by
  by_cases h : 0 ≤ x
  · have := Int.tmod_nonneg n h; omega
  · obtain ⟨y, rfl⟩ : ∃ y, x = -y := ⟨-x, by omega⟩
    rw [Int.neg_tmod]
    have := Int.tmod_lt_of_pos y hn
    omega
def turnI (x n : Int) : Int := if n < 2 then 0 else (x.tmod n + n).tmod n
theorem turnI_bd (x n : Int) : 0 ≤ turnI x n ∧ (1 ≤ n → turnI x n < n) := by
  unfold turnI
  split
  · omega
  · rename_i h
    have h1 : -n < x.tmod n := tmod_gt x (by omega)
    have h2 : 0 ≤ x.tmod n + n := by omega
    exact ⟨Int.tmod_nonneg n h2, fun _ => Int.tmod_lt_of_pos _ (by omega)⟩
theorem turnI_ne {f d n : Int} (hn : 2 ≤ n) (h0 : 0 ≤ f ∧ f < n) (hd : 1 ≤ d ∧ d < n) : turnI (f + d) n ≠ f := by
  unfold turnI
  rw [if_neg (by omega)]
  rw [Int.tmod_eq_emod_of_nonneg (by omega : 0 ≤ f + d), Int.tmod_eq_emod_of_nonneg (by have := Int.emod_nonneg (f + d) (by omega : n ≠ 0); omega)]
  rw [Int.add_emod_right, Int.emod_emod]
  intro e
  by_cases h : f + d < n
  · rw [Int.emod_eq_of_lt (by omega) h] at e; omega
  · have : (f + d) % n = f + d - n := by
      rw [← Int.sub_emod_right (f + d) n, Int.emod_eq_of_lt (by omega) (by omega)]
    omega
theorem Turn_ok (x n : Int) (hn : n ≤ 2 ^ 40) (h : AH) : FnT Try.prog 71 #[.int .i64 x, .int .i64 n] h (fun v _ => v = .int .i64 (turnI x n)) := by
  refine call_body Try.func71 rfl Try.ntmps71 rfl ?_
  refine xp_seq ?_
  refine xp_region rfl ?_
  refine op_pure (pv_assign (v := .int .i64 _) rfl) ?_
  refine xp_seq ?_
  refine xp_seq ?_
  refine xp_region rfl ?_
  refine op_pure (pv_move (v := .int .i64 _) rfl) ?_
  refine op_pure (pv_of (v := .bool _) rfl) ?_
  refine xp_cond rfl (fun ht => ?_) (fun ht => ?_)
  · skip
    have ht' : n < 2 := of_decide_eq_true ht
    refine xp_seq ?_
    refine xp_region rfl ?_
    refine op_pure (pv_assign (v := .int .i64 _) rfl) ?_
    refine xp_ret ?_
    refine res_list (vs := [_]) Try.results71 ⟨resV_tmp rfl rfl, trivial⟩ fun V => ?_
    exact ⟨(ext_wl V), intE (by rw [turnI, if_pos ht'])⟩
  · skip
    have ht' : ¬ n < 2 := of_decide_eq_false ht
    have h1 : -n < x.tmod n := tmod_gt x (by omega)
    have h2 : x.tmod n < n := Int.tmod_lt_of_pos _ (by omega)
    refine xp_skip ?_
    refine xp_seq ?_
    refine xp_region rfl ?_
    refine op_pure (pv_move (v := .int .i64 _) rfl) ?_
    refine op_pure (pv_move (v := .int .i64 _) rfl) ?_
    refine op_pure (pv_remT rfl rfl (by omega)) ?_
    refine op_pure (pv_move (v := .int .i64 _) rfl) ?_
    refine op_pure (pv_arith rfl (by omega)) ?_
    refine op_pure (pv_move (v := .int .i64 _) rfl) ?_
    refine op_pure (pv_remT rfl rfl (by omega)) ?_
    refine op_pure (pv_assign (v := .int .i64 _) rfl) ?_
    refine xp_ret ?_
    refine res_list (vs := [_]) Try.results71 ⟨resV_tmp rfl rfl, trivial⟩ fun V => ?_
    exact ⟨(ext_wl V), intE (by rw [turnI, if_neg ht'])⟩
/-- A machine that is made of numbers. -/
structure Made (size pins links : Int) (m : MachP) : Prop where
  ok : MOK m
  rs : m.rods ≤ size
  ls : m.levers ≤ size
  bl : m.buttons.length ≤ 3
  pl : (m.pins.length : Int) ≤ pins
  ll : (m.links.length : Int) ≤ links
theorem mem_one {α : Type} {P : α → Prop} {l : List α} {z : α} (h : ∀ x ∈ l, P x) (hz : P z) : ∀ x ∈ l ++ [z], P x := fun x hx => by
  rcases List.mem_append.1 hx with hx | hx
  · exact h x hx
  · simp at hx; subst hx; exact hz
set_option maxHeartbeats 8000000 in
theorem MachineOf_ok (b x : Nat) (size pins links : Int) (hs : 1 ≤ size ∧ size ≤ 6) (hp : 0 ≤ pins ∧ pins ≤ 8) (hl : 0 ≤ links ∧ links ≤ 4) (h : AH) :
    FnM Try.prog (.func (.func 18) #[] ([] : List Value).toArray) [.pointer (some ⟨b, 0, none⟩), .int .i64 size, .int .i64 pins, .int .i64 links] h [some (b, .cells #[.int .u64 (x : Int)] 97 (0, 0))]
    (fun v h' M' => ∃ (x' : Nat) (m : MachP), M' = [some (b, .cells #[.int .u64 (x' : Int)] 97 (0, 0))] ∧ MachV h' m v ∧ Made size pins links m) := by
  refine fnM_body rfl rfl Try.func18 rfl Try.ntmps18 rfl ?_
  refine xp_seq ?_
  refine xp_region rfl ?_
  refine op_alloc (cs := [_, _, _, _, _, _, _, _, _]) rfl rfl fun b8 hb8 => ?_
  refine wp_norm [_, _] rfl ?_
  refine xp_seq ?_
  refine xp_region rfl ?_
  refine op_pure (pv_move (v := .pointer (some ⟨b, 0, none⟩)) rfl) ?_
  refine op_pure (pv_move (v := .int .i64 _) rfl) ?_
  refine op_pure (pv_min rfl rfl) ?_
  refine op_fnMM [] [_] [_] (vs := [.pointer _, .int .i64 _, .int .i64 _]) rfl rfl rfl ((Within_ok b x 1 (min size 6) (by omega) (by omega) (by omega) h)) ?_
  rintro _ h1 _ E1 ⟨x1, r, rfl, rfl, r1, r2⟩
  refine wp_norm [_, _] rfl ?_
  refine op_pure (pv_move (v := .pointer (some ⟨b, 0, none⟩)) rfl) ?_
  refine op_pure (pv_move (v := .int .i64 _) rfl) ?_
  refine op_pure (pv_min rfl rfl) ?_
  refine op_fnMM [] [_] [_] (vs := [.pointer _, .int .i64 _, .int .i64 _]) rfl rfl rfl ((Within_ok b x1 1 (min size 6) (by omega) (by omega) (by omega) h1)) ?_
  rintro _ h2 _ E2 ⟨x2, v, rfl, rfl, v1, v2⟩
  refine wp_norm [_, _] rfl ?_
  refine op_pure (pv_move (v := .pointer (some ⟨b, 0, none⟩)) rfl) ?_
  refine op_fnMM [] [_] [_] (vs := [.pointer _, .int .i64 _]) rfl rfl rfl ((Upto_ok b x2 2 (by omega) h2)) ?_
  rintro _ h3 _ E3 ⟨x3, g, rfl, rfl, g1, g2⟩
  refine wp_norm [_, _] rfl ?_
  refine op_pure (pv_move (v := .pointer (some ⟨b, 0, none⟩)) rfl) ?_
  refine op_fnMM [] [_] [_] (vs := [.pointer _, .int .i64 _, .int .i64 _]) rfl rfl rfl ((Within_ok b x3 2 12 (by omega) (by omega) (by omega) h3)) ?_
  rintro _ h4 _ E4 ⟨x4, t, rfl, rfl, t1, t2⟩
  refine wp_norm [_, _] rfl ?_
  refine op_pure (pv_build (zc := [_, _, _, _, _, _, _, _, _]) (vs := [(0, .int .i64 _), (1, .int .i64 _), (2, .int .i64 _), (3, .int .i64 _)]) (cs := [_, _, _, _, _, _, _, _, _]) rfl rfl rfl rfl rfl rfl) ?_
  refine op_alloc (cs := [_, _, _, _, _, _, _, _, _]) rfl rfl fun b9 hb9 => ?_
  refine wp_norm [_, _, _] rfl ?_
  refine op_storeP 2 (v := .agg #[.int .i64 _, .int .i64 _, .int .i64 _, .int .i64 _, .int .i64 _, .slice _ _ _, .slice _ _ _, .slice _ _ _, .slice _ _ _]) (vs := [_, _, _, _, _, _, _, _, _]) (c' := [_, _, _, _, _, _, _, _, _]) rfl rfl rfl rfl rfl rfl rfl rfl rfl ?_
  refine wp_norm [_, _, _] rfl ?_
  refine xp_seq ?_
  refine xp_region rfl ?_
  refine op_pure (pv_move (v := .pointer (some ⟨b, 0, none⟩)) rfl) ?_
  refine op_pure (pv_fieldAddr rfl rfl rfl rfl 3 rfl) ?_
  refine op_loadP 2 (v := .int .i64 _) rfl rfl rfl rfl ?_
  refine op_pure (pv_quoT (c := t / 3) rfl rfl (by omega) (Int.tdiv_eq_ediv_of_nonneg (by omega)) (by omega)) ?_
  refine op_pure (pv_max rfl rfl) ?_
  refine op_fnMM [] [_] [_, _] (vs := [.pointer _, .int .i64 _, .int .i64 _]) rfl rfl rfl ((Within_ok b x4 1 (max 1 (t / 3)) (by omega) (by omega) (by omega) h4)) ?_
  rintro _ h5 _ E5 ⟨x5, o, rfl, rfl, o1, o2⟩
  refine wp_norm [_, _, _] rfl ?_
  refine op_pure (pv_fieldAddr rfl rfl rfl rfl 4 rfl) ?_
  refine op_storeP 2 (v := .int .i64 _) (vs := [_]) (c' := [_, _, _, _, _, _, _, _, _]) rfl rfl rfl rfl rfl rfl rfl rfl rfl ?_
  refine wp_norm [_, _, _] rfl ?_
  refine goes_more ?_
  refine goes_norm [_, _, _, _] rfl ?_
  refine goes_more ?_
  refine goes_norm [_, _, _, _, _] rfl ?_
  refine goes_more ?_
  refine goes_norm [_, _, _, _, _, _] rfl ?_
  refine goes_more ?_
  refine goes_norm [_, _, _, _, _, _, _] rfl ?_
  refine xp_seq ?_
  refine xp_seq ?_
  refine xp_region rfl ?_
  refine op_pure (pv_move (v := .pointer (some ⟨b, 0, none⟩)) rfl) ?_
  refine op_fnMM [] [_] [_, _, _, _, _, _] (vs := [.pointer _, .int .i64 _]) rfl rfl rfl ((Upto_ok b x5 3 (by omega) h5)) ?_
  rintro _ h6 _ E6 ⟨x6, i0, rfl, rfl, i01, i02⟩
  refine wp_norm [_, _, _, _, _, _, _] rfl ?_
  refine op_pure (pv_assign (v := .int .i64 _) rfl) ?_
  refine xp_block ?_
  refine xp_loopL [10, 37, 38, 39, 40, 41, 42, 43, 44, 45, 46, 47, 48, 49, 50] 7 (α := Int × Nat × List Int × Acc) (fun ⟨i, y, bs, a⟩ => [(10, .int .i64 i)]) (fun ⟨i, y, bs, a⟩ L => ((L.set 0 (some (b, .cells #[.int .u64 (y : Int)] 97 (0, 0)))).set 2 (some (b9, .cells #[.int .i64 r, .int .i64 v, .int .i64 g, .int .i64 t, .int .i64 o, .slice a.A a.n a.c, .slice none 0 0, .slice none 0 0, .slice none 0 0] 28 (0, 0)))).set 3 (a.p)) (fun ⟨i, y, bs, a⟩ h_i => (0 ≤ i ∧ i + bs.length ≤ 3) ∧ (∀ z ∈ bs, 0 ≤ z ∧ z < r) ∧ AccR 3 1 (bs.flatMap intC) a) (fun ⟨i, y, bs, a⟩ => i.toNat) ((i0, x6, [], acc0)) ⟨rfl, trivial⟩ (rfl) (⟨⟨by omega, by simp; omega⟩, fun _ hz => absurd hz List.not_mem_nil, accR0⟩) ?_
  rintro ⟨i, y, bs, a⟩ T1 h_i E_i J_i
  refine goes_norm [_, _, _, _, _, _, _] rfl ?_
  obtain ⟨⟨K1, K2⟩, K3, KA⟩ := J_i
  refine xp_seq ?_
  refine xp_seq ?_
  refine xp_region rfl ?_
  refine op_pure (pv_move (v := .int .i64 _) rfl) ?_
  refine op_pure (pv_of (v := .bool _) rfl) ?_
  refine xp_cond rfl (fun ht => ?_) (fun ht => ?_)
  · skip
    have hi : 0 < i := of_decide_eq_true ht
    refine xp_skip ?_
    refine xp_seq ?_
    refine xp_block ?_
    refine xp_dw [true, false, false, false, false, false, false] rfl rfl rfl ?_
    refine dw_pure (i := 0) rfl (by decide +kernel) (pv_fieldAddr rfl rfl rfl rfl 5 rfl) ?_
    refine dw_load (i := 1) rfl (by decide +kernel) ?_
    refine op_loadP 2 (v := .slice _ _ _) rfl rfl rfl rfl ?_
    refine dw_pure (i := 2) rfl (by decide +kernel) (pv_move (v := .pointer (some ⟨b, 0, none⟩)) rfl) ?_
    refine dw_pure (i := 3) rfl (by decide +kernel) (pv_fieldAddr rfl rfl rfl rfl 0 rfl) ?_
    refine dw_load (i := 4) rfl (by decide +kernel) ?_
    refine op_loadP 2 (v := .int .i64 _) rfl rfl rfl rfl ?_
    refine dw_pure (i := 5) rfl (by decide +kernel) (pv_arith rfl (by omega)) ?_
    refine dw_eff (i := 6) rfl (by decide +kernel) ?_
    refine op_fnMM [] [_] [_, _, _, _, _, _] (vs := [.pointer _, .int .i64 _]) rfl rfl rfl ((Upto_ok b y (r - 1) (by omega) h_i)) ?_
    rintro _ h7 _ E7 ⟨y2, z, rfl, rfl, z1, z2⟩
    refine ⟨ext_wlm E7 _, ?_⟩
    refine dw_norm [_, _, _, _, _, _, _] rfl ?_
    refine dw_eff (i := 7) rfl (by decide +kernel) ?_
    refine op_buildSlice (zc := [_]) (vs := [(0, .int .i64 _)]) (cs := [_]) rfl rfl rfl rfl rfl rfl rfl fun b48 hb48 => ?_
    refine ⟨ext_newM hb48 _, ?_⟩
    refine dw_norm [_, _, _, _, _, _, _, _] rfl ?_
    refine dw_last (i := 8) rfl (by decide +kernel) (by decide +kernel) ?_
    refine op_appendR 3 KA rfl rfl rfl (fun V => rdP V (i := 7) rfl) rfl rfl rfl rfl rfl rfl rfl rfl rfl (by omega) rfl (by rw [flat_len (m := 1) (fun _ _ => rfl)]; simp; omega) fun a2 h2a E2a ha2 => ?_
    refine dw_norm [_, _, _, _, _, _, _, _] rfl ?_
    refine dw_pure (i := 9) rfl (by decide +kernel) (pv_fieldAddr rfl rfl rfl rfl 5 rfl) ?_
    refine dw_last (i := 10) rfl (by decide +kernel) (by decide +kernel) ?_
    refine op_storeP 2 (v := .slice _ _ _) (vs := [_]) (c' := [_, _, _, _, _, _, _, _, _]) rfl rfl rfl rfl rfl rfl rfl rfl rfl ?_
    refine dw_norm [_, _, _, _, _, _, _, _] rfl ?_
    refine dw_end rfl ?_
    refine xp_region rfl ?_
    refine op_pure (pv_move (v := .int .i64 _) rfl) ?_
    refine op_pure (pv_arith rfl (by omega)) ?_
    refine op_pure (pv_assign (v := .int .i64 _) rfl) ?_
    refine ⟨(i - 1, y2, bs ++ [z], a2), ⟨rfl, trivial⟩, rfl, rfl, (Ext.trans (Ext.trans E_i E7) E2a), fun h3 E3 => ⟨⟨by omega, by simp; omega⟩, mem_one K3 ⟨z1, by omega⟩, by rw [List.flatMap_append]; exact ha2⟩, by first | omega | (dsimp only; omega), ?_⟩
    repeat (first | exact off_base _ _ _ | refine off_upd (by decide) ?_ | refine off_updL rfl ?_ | refine off_mix rfl ?_)
  · skip
    have hi0 : i = 0 := by have := of_decide_eq_false ht; omega
    obtain ⟨pB, AB, nB, cB⟩ := a
    obtain rfl : nB = bs.length := by have := AccR.len KA; rw [flat_len (m := 1) (fun _ _ => rfl)] at this; dsimp only at this; omega
    dsimp only at *
    refine goes_pubO 3 rfl ?_
    intro gB GB PB
    refine goes_norm [_, _, _, _, _, _, _] rfl ?_
    have RB : Row gB 1 intC AB bs := ⟨fun _ _ => rfl, AccR.rd KA PB⟩
    refine xp_exit ?_
    refine xp_seq ?_
    refine xp_seq ?_
    refine xp_region rfl ?_
    refine op_pure (pv_move (v := .pointer (some ⟨b, 0, none⟩)) rfl) ?_
    refine op_pure (pv_move (v := .int .i64 _) rfl) ?_
    refine op_fnMM [] [_] [_, _, _, _, _, _] (vs := [.pointer _, .int .i64 _]) rfl rfl rfl ((Upto_ok b y pins (by omega) gB)) ?_
    rintro _ h8 _ E8 ⟨x8, j0, rfl, rfl, j01, j02⟩
    refine wp_norm [_, _, _, _, _, _, _] rfl ?_
    refine op_pure (pv_assign (v := .int .i64 _) rfl) ?_
    refine xp_block ?_
    refine xp_loopL [11, 54, 55, 56, 57, 58, 59, 60, 61, 62, 63, 64, 65, 66, 67, 68, 69, 70, 71, 72, 73, 74, 75, 76, 77, 78] 7 (α := Int × Nat × List PinP × Acc) (fun ⟨j, y, qs, a⟩ => [(11, .int .i64 j)]) (fun ⟨j, y, qs, a⟩ L => ((L.set 0 (some (b, .cells #[.int .u64 (y : Int)] 97 (0, 0)))).set 2 (some (b9, .cells #[.int .i64 r, .int .i64 v, .int .i64 g, .int .i64 t, .int .i64 o, .slice AB bs.length cB, .slice a.A a.n a.c, .slice none 0 0, .slice none 0 0] 28 (0, 0)))).set 4 (a.p)) (fun ⟨j, y, qs, a⟩ h_j => (0 ≤ j ∧ j + qs.length ≤ pins) ∧ (∀ p ∈ qs, (0 ≤ p.rod ∧ p.rod < r) ∧ (0 ≤ p.lever ∧ p.lever < v) ∧ (0 ≤ p.lag ∧ p.lag ≤ t)) ∧ AccR 36 3 (qs.flatMap pinC) a) (fun ⟨j, y, qs, a⟩ => j.toNat) ((j0, x8, [], acc0)) ⟨rfl, trivial⟩ (rfl) (⟨⟨by omega, by simp; omega⟩, fun _ hz => absurd hz List.not_mem_nil, accR0⟩) ?_
    rintro ⟨j, y, qs, a⟩ T3 h_j E_j J_j
    refine goes_norm [_, _, _, _, _, _, _] rfl ?_
    obtain ⟨⟨L1, L2⟩, L3, KA⟩ := J_j
    refine xp_seq ?_
    refine xp_seq ?_
    refine xp_region rfl ?_
    refine op_pure (pv_move (v := .int .i64 _) rfl) ?_
    refine op_pure (pv_of (v := .bool _) rfl) ?_
    refine xp_cond rfl (fun hu => ?_) (fun hu => ?_)
    · skip
      have hj : 0 < j := of_decide_eq_true hu
      refine xp_skip ?_
      refine xp_seq ?_
      refine xp_block ?_
      refine xp_dw [true, false, false, false, false, false, false] rfl rfl rfl ?_
      refine dw_pure (i := 0) rfl (by decide +kernel) (pv_fieldAddr rfl rfl rfl rfl 6 rfl) ?_
      refine dw_load (i := 1) rfl (by decide +kernel) ?_
      refine op_loadP 2 (v := .slice _ _ _) rfl rfl rfl rfl ?_
      refine dw_pure (i := 2) rfl (by decide +kernel) (pv_move (v := .pointer (some ⟨b, 0, none⟩)) rfl) ?_
      refine dw_pure (i := 3) rfl (by decide +kernel) (pv_fieldAddr rfl rfl rfl rfl 0 rfl) ?_
      refine dw_load (i := 4) rfl (by decide +kernel) ?_
      refine op_loadP 2 (v := .int .i64 _) rfl rfl rfl rfl ?_
      refine dw_pure (i := 5) rfl (by decide +kernel) (pv_arith rfl (by omega)) ?_
      refine dw_pure (i := 7) rfl (by decide +kernel) (pv_move (v := .pointer (some ⟨b, 0, none⟩)) rfl) ?_
      refine dw_pure (i := 8) rfl (by decide +kernel) (pv_fieldAddr rfl rfl rfl rfl 1 rfl) ?_
      refine dw_load (i := 9) rfl (by decide +kernel) ?_
      refine op_loadP 2 (v := .int .i64 _) rfl rfl rfl rfl ?_
      refine dw_pure (i := 10) rfl (by decide +kernel) (pv_arith rfl (by omega)) ?_
      refine dw_pure (i := 12) rfl (by decide +kernel) (pv_move (v := .pointer (some ⟨b, 0, none⟩)) rfl) ?_
      refine dw_pure (i := 13) rfl (by decide +kernel) (pv_fieldAddr rfl rfl rfl rfl 3 rfl) ?_
      refine dw_load (i := 14) rfl (by decide +kernel) ?_
      refine op_loadP 2 (v := .int .i64 _) rfl rfl rfl rfl ?_
      refine dw_pure (i := 15) rfl (by decide +kernel) (pv_quoT (c := t / 2) rfl rfl (by omega) (Int.tdiv_eq_ediv_of_nonneg (by omega)) (by omega)) ?_
      refine dw_eff (i := 6) rfl (by decide +kernel) ?_
      refine op_fnMM [] [_] [_, _, _, _, _, _] (vs := [.pointer _, .int .i64 _]) rfl rfl rfl ((Upto_ok b y (r - 1) (by omega) h_j)) ?_
      rintro _ h9 _ E9 ⟨y2, z, rfl, rfl, z1, z2⟩
      refine ⟨ext_wlm E9 _, ?_⟩
      refine dw_norm [_, _, _, _, _, _, _] rfl ?_
      refine dw_eff (i := 11) rfl (by decide +kernel) ?_
      refine op_fnMM [] [_] [_, _, _, _, _, _] (vs := [.pointer _, .int .i64 _]) rfl rfl rfl ((Upto_ok b y2 (v - 1) (by omega) h9)) ?_
      rintro _ h10 _ E10 ⟨y3, w, rfl, rfl, w1, w2⟩
      refine ⟨ext_wlm E10 _, ?_⟩
      refine dw_norm [_, _, _, _, _, _, _] rfl ?_
      refine dw_eff (i := 16) rfl (by decide +kernel) ?_
      refine op_fnMM [] [_] [_, _, _, _, _, _] (vs := [.pointer _, .int .i64 _]) rfl rfl rfl ((Upto_ok b y3 (t / 2) (by omega) h10)) ?_
      rintro _ h11 _ E11 ⟨y4, e, rfl, rfl, e1, e2⟩
      refine ⟨ext_wlm E11 _, ?_⟩
      refine dw_norm [_, _, _, _, _, _, _] rfl ?_
      refine dw_pure (i := 17) rfl (by decide +kernel) (pv_build (zc := [_, _, _]) (vs := [(0, .int .i64 _), (1, .int .i64 _), (2, .int .i64 _)]) (cs := [_, _, _]) rfl rfl rfl rfl rfl rfl) ?_
      refine dw_eff (i := 18) rfl (by decide +kernel) ?_
      refine op_buildSlice (zc := [_, _, _]) (vs := [(0, .agg #[.int .i64 _, .int .i64 _, .int .i64 _])]) (cs := [_, _, _]) rfl rfl rfl rfl rfl rfl rfl fun b76 hb76 => ?_
      refine ⟨ext_newM hb76 _, ?_⟩
      refine dw_norm [_, _, _, _, _, _, _, _] rfl ?_
      refine dw_last (i := 19) rfl (by decide +kernel) (by decide +kernel) ?_
      refine op_appendR 4 KA rfl rfl rfl (fun V => rdP V (i := 7) rfl) rfl rfl rfl rfl rfl rfl rfl rfl rfl (by omega) rfl (by rw [flat_len (m := 3) (fun _ _ => rfl)]; simp; omega) fun a2 h4a E4a ha2 => ?_
      refine dw_norm [_, _, _, _, _, _, _, _] rfl ?_
      refine dw_pure (i := 20) rfl (by decide +kernel) (pv_fieldAddr rfl rfl rfl rfl 6 rfl) ?_
      refine dw_last (i := 21) rfl (by decide +kernel) (by decide +kernel) ?_
      refine op_storeP 2 (v := .slice _ _ _) (vs := [_]) (c' := [_, _, _, _, _, _, _, _, _]) rfl rfl rfl rfl rfl rfl rfl rfl rfl ?_
      refine dw_norm [_, _, _, _, _, _, _, _] rfl ?_
      refine dw_end rfl ?_
      refine xp_region rfl ?_
      refine op_pure (pv_move (v := .int .i64 _) rfl) ?_
      refine op_pure (pv_arith rfl (by omega)) ?_
      refine op_pure (pv_assign (v := .int .i64 _) rfl) ?_
      refine ⟨(j - 1, y4, qs ++ [⟨z, w, e⟩], a2), ⟨rfl, trivial⟩, rfl, rfl, (Ext.trans (Ext.trans (Ext.trans (Ext.trans E_j E9) E10) E11) E4a), fun h3 E3 => ⟨⟨by omega, by simp; omega⟩, mem_one L3 ⟨⟨z1, by show z < r; omega⟩, ⟨w1, by show w < v; omega⟩, ⟨e1, by show e ≤ t; omega⟩⟩, by rw [List.flatMap_append]; exact ha2⟩, by first | omega | (dsimp only; omega), ?_⟩
      repeat (first | exact off_base _ _ _ | refine off_upd (by decide) ?_ | refine off_updL rfl ?_ | refine off_mix rfl ?_)
    · skip
      have hj0 : j = 0 := by have := of_decide_eq_false hu; omega
      obtain ⟨pP, AQ, nP, cQ⟩ := a
      obtain rfl : nP = qs.length := by have := AccR.len KA; rw [flat_len (m := 3) (fun _ _ => rfl)] at this; dsimp only at this; omega
      dsimp only at *
      refine goes_pubO 4 rfl ?_
      intro gP GP PP
      refine goes_norm [_, _, _, _, _, _, _] rfl ?_
      have RP : Row gP 3 pinC AQ qs := ⟨fun _ _ => rfl, AccR.rd KA PP⟩
      refine xp_exit ?_
      refine xp_cutB [12, 13, 79, 80, 81, 82, 83, 84, 85, 86, 87, 88, 89, 90, 91, 92, 93, 94, 95, 96, 97, 98, 99, 100, 101, 102, 103, 104, 105, 106, 107, 108, 109, 110, 111, 112, 113, 114, 115, 116, 117, 118, 119, 120, 121, 122, 123, 124, 125] 7 (α := Nat × List LinkP × Acc) (fun ⟨y, ls, a⟩ => []) (fun ⟨y, ls, a⟩ L => ((L.set 0 (some (b, .cells #[.int .u64 (y : Int)] 97 (0, 0)))).set 2 (some (b9, .cells #[.int .i64 r, .int .i64 v, .int .i64 g, .int .i64 t, .int .i64 o, .slice AB bs.length cB, .slice AQ qs.length cQ, .slice a.A a.n a.c, .slice none 0 0] 28 (0, 0)))).set 5 (a.p)) (fun ⟨y, ls, a⟩ h_y => (ls.length : Int) ≤ links ∧ (∀ p ∈ ls, (0 ≤ p.frm ∧ p.frm < r) ∧ (0 ≤ p.to ∧ p.to < r) ∧ p.frm ≠ p.to ∧ (-1 ≤ p.reg ∧ p.reg < g) ∧ (1 ≤ p.lag ∧ p.lag ≤ t)) ∧ AccR 39 4 (ls.flatMap linkC) a) ?_ ?_
      · skip
        refine xp_seq ?_
        refine xp_region rfl ?_
        refine op_pure (pv_move (v := .pointer (some ⟨b, 0, none⟩)) rfl) ?_
        refine op_pure (pv_move (v := .int .i64 _) rfl) ?_
        refine op_fnMM [] [_] [_, _, _, _, _, _] (vs := [.pointer _, .int .i64 _]) rfl rfl rfl ((Upto_ok b y links (by omega) gP)) ?_
        rintro _ h12 _ E12 ⟨x12, k0, rfl, rfl, k01, k02⟩
        refine wp_norm [_, _, _, _, _, _, _] rfl ?_
        refine op_pure (pv_assign (v := .int .i64 _) rfl) ?_
        refine xp_block ?_
        refine xp_loopL [12, 13, 82, 83, 84, 85, 86, 87, 88, 89, 90, 91, 92, 93, 94, 95, 96, 97, 98, 99, 100, 101, 102, 103, 104, 105, 106, 107, 108, 109, 110, 111, 112, 113, 114, 115, 116, 117, 118, 119, 120, 121, 122, 123, 124, 125] 7 (α := Int × Nat × List LinkP × Acc) (fun ⟨k, y, ls, a⟩ => [(12, .int .i64 k)]) (fun ⟨k, y, ls, a⟩ L => ((L.set 0 (some (b, .cells #[.int .u64 (y : Int)] 97 (0, 0)))).set 2 (some (b9, .cells #[.int .i64 r, .int .i64 v, .int .i64 g, .int .i64 t, .int .i64 o, .slice AB bs.length cB, .slice AQ qs.length cQ, .slice a.A a.n a.c, .slice none 0 0] 28 (0, 0)))).set 5 (a.p)) (fun ⟨k, y, ls, a⟩ h_k => (0 ≤ k ∧ k + ls.length ≤ links) ∧ (∀ p ∈ ls, (0 ≤ p.frm ∧ p.frm < r) ∧ (0 ≤ p.to ∧ p.to < r) ∧ p.frm ≠ p.to ∧ (-1 ≤ p.reg ∧ p.reg < g) ∧ (1 ≤ p.lag ∧ p.lag ≤ t)) ∧ AccR 39 4 (ls.flatMap linkC) a) (fun ⟨k, y, ls, a⟩ => k.toNat) ((k0, x12, [], acc0)) ⟨rfl, trivial⟩ (rfl) (⟨⟨by omega, by simp; omega⟩, fun _ hz => absurd hz List.not_mem_nil, accR0⟩) ?_
        rintro ⟨k, y, ls, a⟩ T6 h_k E_k J_k
        refine goes_norm [_, _, _, _, _, _, _] rfl ?_
        obtain ⟨⟨N1, N2⟩, N3, KA⟩ := J_k
        refine xp_seq ?_
        refine xp_seq ?_
        refine xp_region rfl ?_
        refine op_pure (pv_move (v := .int .i64 _) rfl) ?_
        refine op_pure (pv_of (v := .bool _) rfl) ?_
        refine op_pure (pv_move (v := .bool _) rfl) ?_
        rcases Bool.eq_false_or_eq_true (decide (k > 0)) with hk | hk
        · skip
          have hk0 : k > 0 := of_decide_eq_true hk
          refine guard_yes rfl hk ?_
          refine op_pure (pv_fieldAddr rfl rfl rfl rfl 0 rfl) ?_
          refine guard_yes rfl hk ?_
          refine op_loadP 2 (v := .int .i64 _) rfl rfl rfl rfl ?_
          refine guard_yes rfl hk ?_
          refine op_pure (pv_of (v := .bool _) rfl) ?_
          refine op_pure (pv_pickT rfl hk (v := .bool _) rfl) ?_
          refine xp_cond rfl (fun hr => ?_) (fun hr => ?_)
          · skip
            have hr1 : r > 1 := of_decide_eq_true hr
            refine xp_skip ?_
            refine xp_seq ?_
            refine xp_block ?_
            refine xp_seq ?_
            refine xp_dw [true, false, false, false, false, false, false] rfl rfl rfl ?_
            refine dw_pure (i := 0) rfl (by decide +kernel) (pv_move (v := .pointer (some ⟨b, 0, none⟩)) rfl) ?_
            refine dw_pure (i := 1) rfl (by decide +kernel) (pv_fieldAddr rfl rfl rfl rfl 0 rfl) ?_
            refine dw_load (i := 2) rfl (by decide +kernel) ?_
            refine op_loadP 2 (v := .int .i64 _) rfl rfl rfl rfl ?_
            refine dw_pure (i := 3) rfl (by decide +kernel) (pv_arith rfl (by omega)) ?_
            refine dw_pure (i := 5) rfl (by decide +kernel) (pv_move (v := .pointer (some ⟨b, 0, none⟩)) rfl) ?_
            refine dw_pure (i := 6) rfl (by decide +kernel) (pv_fieldAddr rfl rfl rfl rfl 2 rfl) ?_
            refine dw_load (i := 7) rfl (by decide +kernel) ?_
            refine op_loadP 2 (v := .int .i64 _) rfl rfl rfl rfl ?_
            refine dw_pure (i := 8) rfl (by decide +kernel) (pv_arith rfl (by omega)) ?_
            refine dw_pure (i := 10) rfl (by decide +kernel) (pv_move (v := .pointer (some ⟨b, 0, none⟩)) rfl) ?_
            refine dw_pure (i := 11) rfl (by decide +kernel) (pv_fieldAddr rfl rfl rfl rfl 3 rfl) ?_
            refine dw_load (i := 12) rfl (by decide +kernel) ?_
            refine op_loadP 2 (v := .int .i64 _) rfl rfl rfl rfl ?_
            refine dw_pure (i := 13) rfl (by decide +kernel) (pv_quoT (c := t / 3) rfl rfl (by omega) (Int.tdiv_eq_ediv_of_nonneg (by omega)) (by omega)) ?_
            refine dw_pure (i := 14) rfl (by decide +kernel) (pv_max rfl rfl) ?_
            refine dw_eff (i := 4) rfl (by decide +kernel) ?_
            refine op_fnMM [] [_] [_, _, _, _, _, _] (vs := [.pointer _, .int .i64 _]) rfl rfl rfl ((Upto_ok b y (r - 1) (by omega) h_k)) ?_
            rintro _ h13 _ E13 ⟨y2, z, rfl, rfl, z1, z2⟩
            refine ⟨ext_wlm E13 _, ?_⟩
            refine dw_norm [_, _, _, _, _, _, _] rfl ?_
            refine dw_eff (i := 9) rfl (by decide +kernel) ?_
            refine op_fnMM [] [_] [_, _, _, _, _, _] (vs := [.pointer _, .int .i64 _, .int .i64 _]) rfl rfl rfl ((Within_ok b y2 (-1) (g - 1) (by omega) (by omega) (by omega) h13)) ?_
            rintro _ h14 _ E14 ⟨y3, e, rfl, rfl, e1, e2⟩
            refine ⟨ext_wlm E14 _, ?_⟩
            refine dw_norm [_, _, _, _, _, _, _] rfl ?_
            refine dw_last (i := 15) rfl (by decide +kernel) (by decide +kernel) ?_
            refine op_fnMM [] [_] [_, _, _, _, _, _] (vs := [.pointer _, .int .i64 _, .int .i64 _]) rfl rfl rfl ((Within_ok b y3 1 (max 1 (t / 3)) (by omega) (by omega) (by omega) h14)) ?_
            rintro _ h15 _ E15 ⟨y4, w, rfl, rfl, w1, w2⟩
            refine dw_norm [_, _, _, _, _, _, _] rfl ?_
            refine dw_pure (i := 16) rfl (by decide +kernel) (pv_build (zc := [_, _, _, _]) (vs := [(0, .int .i64 _), (2, .int .i64 _), (3, .int .i64 _)]) (cs := [_, _, _, _]) rfl rfl rfl rfl rfl rfl) ?_
            refine dw_eff (i := 17) rfl (by decide +kernel) ?_
            refine op_alloc (cs := [_, _, _, _]) rfl rfl fun b13 hb13 => ?_
            refine ⟨ext_newM hb13 _, ?_⟩
            refine dw_norm [_, _, _, _, _, _, _, _] rfl ?_
            refine dw_last (i := 18) rfl (by decide +kernel) (by decide +kernel) ?_
            refine op_storeP 7 (v := .agg #[.int .i64 _, .int .i64 _, .int .i64 _, .int .i64 _]) (vs := [_, _, _, _]) (c' := [_, _, _, _]) rfl rfl rfl rfl rfl rfl rfl rfl rfl ?_
            refine dw_norm [_, _, _, _, _, _, _, _] rfl ?_
            refine dw_end rfl ?_
            refine xp_seq ?_
            refine xp_dw [true, false, false, false, false, false, false, false] rfl rfl rfl ?_
            refine dw_pure (i := 0) rfl (by decide +kernel) (pv_fieldAddr rfl rfl rfl rfl 0 rfl) ?_
            refine dw_load (i := 1) rfl (by decide +kernel) ?_
            refine op_loadP 7 (v := .int .i64 _) rfl rfl rfl rfl ?_
            refine dw_pure (i := 2) rfl (by decide +kernel) (pv_move (v := .pointer (some ⟨b, 0, none⟩)) rfl) ?_
            refine dw_pure (i := 3) rfl (by decide +kernel) (pv_fieldAddr rfl rfl rfl rfl 0 rfl) ?_
            refine dw_load (i := 4) rfl (by decide +kernel) ?_
            refine op_loadP 2 (v := .int .i64 _) rfl rfl rfl rfl ?_
            refine dw_pure (i := 5) rfl (by decide +kernel) (pv_arith rfl (by omega)) ?_
            refine dw_pure (i := 8) rfl (by decide +kernel) (pv_fieldAddr rfl rfl rfl rfl 0 rfl) ?_
            refine dw_load (i := 9) rfl (by decide +kernel) ?_
            refine op_loadP 2 (v := .int .i64 _) rfl rfl rfl rfl ?_
            refine dw_eff (i := 6) rfl (by decide +kernel) ?_
            refine op_fnMM [] [_] [_, _, _, _, _, _, _] (vs := [.pointer _, .int .i64 _, .int .i64 _]) rfl rfl rfl ((Within_ok b y4 1 (r - 1) (by omega) (by omega) (by omega) h15)) ?_
            rintro _ h16 _ E16 ⟨y5, d, rfl, rfl, d1, d2⟩
            refine ⟨ext_wlm E16 _, ?_⟩
            refine dw_norm [_, _, _, _, _, _, _, _] rfl ?_
            refine dw_pure (i := 7) rfl (by decide +kernel) (pv_arith rfl (by omega)) ?_
            refine dw_last (i := 10) rfl (by decide +kernel) (by decide +kernel) ?_
            refine op_fn (caps := []) (vs := [.int .i64 _, .int .i64 _]) rfl rfl rfl (Turn_ok (z + d) r (by omega) h16) ?_
            rintro _ h17 E17 rfl
            have tb := turnI_bd (z + d) r
            have tn := turnI_ne (f := z) (d := d) (n := r) (by omega) ⟨z1, by omega⟩ ⟨d1, by omega⟩
            refine dw_pure (i := 11) rfl (by decide +kernel) (pv_fieldAddr rfl rfl rfl rfl 1 rfl) ?_
            refine dw_last (i := 12) rfl (by decide +kernel) (by decide +kernel) ?_
            refine op_storeP 7 (v := .int .i64 _) (vs := [_]) (c' := [_, _, _, _]) rfl rfl rfl rfl rfl rfl rfl rfl rfl ?_
            refine dw_norm [_, _, _, _, _, _, _, _] rfl ?_
            refine dw_end rfl ?_
            refine xp_region rfl ?_
            refine op_pure (pv_fieldAddr rfl rfl rfl rfl 7 rfl) ?_
            refine op_loadP 2 (v := .slice _ _ _) rfl rfl rfl rfl ?_
            refine op_loadPA 7 (vs := [.int .i64 _, .int .i64 _, .int .i64 _, .int .i64 _]) rfl rfl rfl rfl rfl ?_
            refine op_buildSlice (zc := [_, _, _, _]) (vs := [(0, .agg #[.int .i64 _, .int .i64 _, .int .i64 _, .int .i64 _])]) (cs := [_, _, _, _]) rfl rfl rfl rfl rfl rfl rfl fun b123 hb123 => ?_
            refine wp_norm [_, _, _, _, _, _, _, _, _] rfl ?_
            refine op_appendR 5 KA rfl rfl rfl (fun V => rdP V (i := 8) rfl) rfl rfl rfl rfl rfl rfl rfl rfl rfl (by omega) rfl (by rw [flat_len (m := 4) (fun _ _ => rfl)]; simp; omega) fun a2 h7a E7a ha2 => ?_
            refine wp_norm [_, _, _, _, _, _, _, _, _] rfl ?_
            refine op_pure (pv_fieldAddr rfl rfl rfl rfl 7 rfl) ?_
            refine op_storeP 2 (v := .slice _ _ _) (vs := [_]) (c' := [_, _, _, _, _, _, _, _, _]) rfl rfl rfl rfl rfl rfl rfl rfl rfl ?_
            refine wp_norm [_, _, _, _, _, _, _, _, _] rfl ?_
            refine xp_region rfl ?_
            refine op_pure (pv_move (v := .int .i64 _) rfl) ?_
            refine op_pure (pv_arith rfl (by omega)) ?_
            refine op_pure (pv_assign (v := .int .i64 _) rfl) ?_
            refine ⟨(k - 1, y5, ls ++ [⟨z, turnI (z + d) r, e, w⟩], a2), ⟨rfl, trivial⟩, rfl, rfl, (Ext.trans (Ext.trans (Ext.trans (Ext.trans (Ext.trans (Ext.trans E_k E13) E14) E15) E16) E17) E7a), fun h3 E3 => ⟨⟨by omega, by simp; omega⟩, mem_one N3 ⟨⟨z1, by show z < r; omega⟩, ⟨tb.1, tb.2 (by omega)⟩, fun he => tn he.symm, ⟨e1, by show e < g; omega⟩, ⟨w1, by show w ≤ t; omega⟩⟩, by rw [List.flatMap_append]; exact ha2⟩, by first | omega | (dsimp only; omega), ?_⟩
            repeat (first | exact off_base _ _ _ | refine off_upd (by decide) ?_ | refine off_updL rfl ?_ | refine off_mix rfl ?_)
          · skip
            refine xp_exit ?_
            refine ⟨(y, ls, a), trivial, rfl, rfl, (Ext.trans E12 E_k), fun h3 E3 => ⟨by omega, N3, KA⟩, ?_⟩
            repeat (first | exact off_refl _ _ | exact off_base _ _ _ | refine off_upd (by decide) ?_ | refine off_updL rfl ?_ | refine off_mix rfl ?_)
        · skip
          have hk0 : k = 0 := by have := of_decide_eq_false hk; omega
          refine guard_no rfl hk ?_
          refine guard_no rfl hk ?_
          refine guard_no rfl hk ?_
          refine op_pure (pv_pickF rfl hk (v := .bool _) rfl) ?_
          refine xp_condF rfl (rfl) ?_
          refine xp_exit ?_
          refine ⟨(y, ls, a), trivial, rfl, rfl, (Ext.trans E12 E_k), fun h3 E3 => ⟨by omega, N3, KA⟩, ?_⟩
          repeat (first | exact off_refl _ _ | exact off_base _ _ _ | refine off_upd (by decide) ?_ | refine off_updL rfl ?_ | refine off_mix rfl ?_)
      · rintro ⟨y, ls, a⟩ T5 h_y E_y J_y
        refine goes_norm [_, _, _, _, _, _, _] rfl ?_
        obtain ⟨N1, N3, KA⟩ := J_y
        obtain ⟨pL, AL, nL, cL⟩ := a
        obtain rfl : nL = ls.length := by have := AccR.len KA; rw [flat_len (m := 4) (fun _ _ => rfl)] at this; dsimp only at this; omega
        dsimp only at *
        refine goes_pubO 5 rfl ?_
        intro gL GL PL
        refine goes_norm [_, _, _, _, _, _, _] rfl ?_
        have RL : Row gL 4 linkC AL ls := ⟨fun _ _ => rfl, AccR.rd KA PL⟩
        refine xp_seq ?_
        refine xp_seq ?_
        refine xp_region rfl ?_
        refine op_pure (pv_assign (v := .int .i64 _) rfl) ?_
        refine xp_block ?_
        refine xp_loopL [14, 126, 127, 128, 129, 130, 131, 132, 133, 134, 135, 136, 137, 138] 7 (α := Nat × Nat × List Int × Acc) (fun ⟨k, y, ws, a⟩ => [(14, .int .i64 k)]) (fun ⟨k, y, ws, a⟩ L => ((L.set 0 (some (b, .cells #[.int .u64 (y : Int)] 97 (0, 0)))).set 2 (some (b9, .cells #[.int .i64 r, .int .i64 v, .int .i64 g, .int .i64 t, .int .i64 o, .slice AB bs.length cB, .slice AQ qs.length cQ, .slice AL ls.length cL, .slice a.A a.n a.c] 28 (0, 0)))).set 6 (a.p)) (fun ⟨k, y, ws, a⟩ h_k => (k ≤ v.toNat ∧ ws.length = k) ∧ (∀ z ∈ ws, 0 ≤ z ∧ z ≤ 50) ∧ AccR 3 1 (ws.flatMap intC) a) (fun ⟨k, y, ws, a⟩ => v.toNat - k) ((0, y, [], acc0)) ⟨rfl, trivial⟩ (rfl) (⟨⟨by omega, rfl⟩, fun _ hz => absurd hz List.not_mem_nil, accR0⟩) ?_
        rintro ⟨k, y, ws, a⟩ T8 h_k E_k J_k
        refine goes_norm [_, _, _, _, _, _, _] rfl ?_
        obtain ⟨⟨M1, M2⟩, M3, KA⟩ := J_k
        refine xp_seq ?_
        refine xp_seq ?_
        refine xp_region rfl ?_
        refine op_pure (pv_move (v := .int .i64 _) rfl) ?_
        refine op_pure (pv_fieldAddr rfl rfl rfl rfl 1 rfl) ?_
        refine op_loadP 2 (v := .int .i64 _) rfl rfl rfl rfl ?_
        refine op_pure (pv_of (v := .bool _) rfl) ?_
        refine xp_cond rfl (fun hw => ?_) (fun hw => ?_)
        · skip
          have hkv : (k : Int) < v := of_decide_eq_true hw
          refine xp_skip ?_
          refine xp_seq ?_
          refine xp_block ?_
          refine xp_dw [true, false, false, false, false, false, false] rfl rfl rfl ?_
          refine dw_pure (i := 0) rfl (by decide +kernel) (pv_fieldAddr rfl rfl rfl rfl 8 rfl) ?_
          refine dw_load (i := 1) rfl (by decide +kernel) ?_
          refine op_loadP 2 (v := .slice _ _ _) rfl rfl rfl rfl ?_
          refine dw_pure (i := 2) rfl (by decide +kernel) (pv_move (v := .pointer (some ⟨b, 0, none⟩)) rfl) ?_
          refine dw_eff (i := 3) rfl (by decide +kernel) ?_
          refine op_fnMM [] [_] [_, _, _, _, _, _] (vs := [.pointer _, .int .i64 _]) rfl rfl rfl ((Upto_ok b y 9 (by omega) h_k)) ?_
          rintro _ h18 _ E18 ⟨y2, z, rfl, rfl, z1, z2⟩
          refine ⟨ext_wlm E18 _, ?_⟩
          refine dw_norm [_, _, _, _, _, _, _] rfl ?_
          refine dw_eff (i := 4) rfl (by decide +kernel) ?_
          refine op_buildSlice (zc := [_]) (vs := [(0, .int .i64 _)]) (cs := [_]) rfl rfl rfl rfl rfl rfl rfl fun b136 hb136 => ?_
          refine ⟨ext_newM hb136 _, ?_⟩
          refine dw_norm [_, _, _, _, _, _, _, _] rfl ?_
          refine dw_last (i := 5) rfl (by decide +kernel) (by decide +kernel) ?_
          refine op_appendR 6 KA rfl rfl rfl (fun V => rdP V (i := 7) rfl) rfl rfl rfl rfl rfl rfl rfl rfl rfl (by omega) rfl (by rw [flat_len (m := 1) (fun _ _ => rfl)]; simp; omega) fun a2 h9a E9a ha2 => ?_
          refine dw_norm [_, _, _, _, _, _, _, _] rfl ?_
          refine dw_pure (i := 6) rfl (by decide +kernel) (pv_fieldAddr rfl rfl rfl rfl 8 rfl) ?_
          refine dw_last (i := 7) rfl (by decide +kernel) (by decide +kernel) ?_
          refine op_storeP 2 (v := .slice _ _ _) (vs := [_]) (c' := [_, _, _, _, _, _, _, _, _]) rfl rfl rfl rfl rfl rfl rfl rfl rfl ?_
          refine dw_norm [_, _, _, _, _, _, _, _] rfl ?_
          refine dw_end rfl ?_
          refine xp_region rfl ?_
          refine op_pure (pv_move (v := .int .i64 _) rfl) ?_
          refine op_pure (pv_arith rfl (by omega)) ?_
          refine op_pure (pv_assign (v := .int .i64 _) rfl) ?_
          refine ⟨(k + 1, y2, ws ++ [z], a2), ⟨rfl, trivial⟩, rfl, rfl, (Ext.trans (Ext.trans E_k E18) E9a), fun h3 E3 => ⟨⟨by omega, by simp; omega⟩, mem_one M3 ⟨z1, by omega⟩, by rw [List.flatMap_append]; exact ha2⟩, by first | omega | (dsimp only; omega), ?_⟩
          repeat (first | exact off_base _ _ _ | refine off_upd (by decide) ?_ | refine off_updL rfl ?_ | refine off_mix rfl ?_)
        · skip
          have hkv : (k : Int) = v := by have := of_decide_eq_false hw; omega
          obtain ⟨pW, AW, nW, cW⟩ := a
          obtain rfl : nW = ws.length := by have := AccR.len KA; rw [flat_len (m := 1) (fun _ _ => rfl)] at this; dsimp only at this; omega
          dsimp only at *
          refine goes_pubO 6 rfl ?_
          intro gW GW PW
          refine goes_norm [_, _, _, _, _, _, _] rfl ?_
          have RW : Row gW 1 intC AW ws := ⟨fun _ _ => rfl, AccR.rd KA PW⟩
          refine xp_exit ?_
          refine xp_seq ?_
          refine xp_region rfl ?_
          refine op_loadPA 2 (vs := [.int .i64 _, .int .i64 _, .int .i64 _, .int .i64 _, .int .i64 _, .slice _ _ _, .slice _ _ _, .slice _ _ _, .slice _ _ _]) rfl rfl rfl rfl rfl ?_
          refine op_storeP 1 (v := .agg #[.int .i64 _, .int .i64 _, .int .i64 _, .int .i64 _, .int .i64 _, .slice _ _ _, .slice _ _ _, .slice _ _ _, .slice _ _ _]) (vs := [_, _, _, _, _, _, _, _, _]) (c' := [_, _, _, _, _, _, _, _, _]) rfl rfl rfl rfl rfl rfl rfl rfl rfl ?_
          refine wp_norm [_, _, _, _, _, _, _] rfl ?_
          refine xp_ret ?_
          refine res_list (vs := [_]) Try.results18 ⟨resV_agg 1 rfl rfl rfl rfl rfl (vs := [.int .i64 _, .int .i64 _, .int .i64 _, .int .i64 _, .int .i64 _, .slice _ _ _, .slice _ _ _, .slice _ _ _, .slice _ _ _]) rfl, trivial⟩ fun V => ?_
          obtain ⟨h9, E9, e9, V9⟩ := wl_drop [_, _, _, _, _, _] [_] V
          have RB9 := (RB.ext (Ext.trans (Ext.trans (Ext.trans (Ext.trans (Ext.trans (Ext.trans E8 E_j) GP) E_y) GL) E_k) GW)).ext E9
          refine ⟨h9, _, e9, V9, Ext.trans (Ext.trans (Ext.trans (Ext.trans (Ext.trans (Ext.trans (Ext.trans (Ext.trans (Ext.trans (Ext.trans (Ext.trans (Ext.trans (Ext.trans (Ext.trans (Ext.trans E1 E2) E3) E4) E5) E6) E_i) GB) E8) E_j) GP) E_y) GL) E_k) GW) E9, y, ⟨r, v, g, t, o, bs, qs, ls, ws⟩, rfl, ⟨.slice AB bs.length cB, .slice AQ qs.length cQ, .slice AL ls.length cL, .slice AW ws.length cW, rfl, ⟨AB, cB, rfl, RB9⟩, ⟨AQ, cQ, rfl, (RP.ext (Ext.trans (Ext.trans (Ext.trans E_y GL) E_k) GW)).ext E9⟩, ⟨AL, cL, rfl, (RL.ext (Ext.trans E_k GW)).ext E9⟩, ⟨AW, cW, rfl, RW.ext E9⟩⟩, ?_⟩
          exact ⟨⟨⟨r1, by show r ≤ 6; omega⟩, ⟨v1, by show v ≤ 6; omega⟩, ⟨g1, by show g ≤ 2; omega⟩, ⟨by show 1 ≤ t; omega, t2⟩, ⟨o1, by show o ≤ t; omega⟩, by show bs.length ≤ 4; omega, K3, by show qs.length ≤ 8; omega, L3, by show ls.length ≤ 4; omega, N3, by show (ws.length : Int) = v; omega, M3⟩, by show r ≤ size; omega, by show v ≤ size; omega, by show bs.length ≤ 3; omega, by show (qs.length : Int) ≤ pins; omega, N1⟩
end
end Go.Proofs.Ythphpbdmbmiaiaa
/- Walks: hands that are made of numbers, copies. Conditions: as each theorem states. -/
namespace Go.Proofs.Ythphpbdmbmiaiaa
open Go Go.HL Go.Proofs Go.Wx Go.Rd
section
variable [Lvl]
set_option maxRecDepth 100000
theorem set_of {l : List Int} {n : Nat} {k : Int} (e : k = n) (h : ∀ z ∈ l, 0 ≤ z ∧ z < n) (p : l.Pairwise (· < ·)) : SetOK l k := by
  subst e
  exact ⟨h, p⟩
theorem HandOf_ok (b x : Nat) (m : MachP) (hb : m.buttons.length ≤ 100) (hr : 0 ≤ m.regs ∧ m.regs ≤ 100) (AB AQ AL AW : Option Addr) (cB cQ cL cW : Nat) (h : AH) :
    FnM Try.prog (.func (.func 19) #[] ([] : List Value).toArray) [.pointer (some ⟨b, 0, none⟩), machV AB AQ AL AW cB cQ cL cW m] h [some (b, .cells #[.int .u64 (x : Int)] 97 (0, 0))]
    (fun v h' M' => ∃ (x' : Nat) (a : HandP), M' = [some (b, .cells #[.int .u64 (x' : Int)] 97 (0, 0))] ∧ HandV h' a v ∧ HOK m a) := by
  refine fnM_body rfl rfl Try.func19 rfl Try.ntmps19 rfl ?_
  refine xp_seq ?_
  refine xp_region rfl ?_
  refine op_box (v := .agg #[.int .i64 _, .int .i64 _, .int .i64 _, .int .i64 _, .int .i64 _, .slice _ _ _, .slice _ _ _, .slice _ _ _, .slice _ _ _]) (cs := [_, _, _, _, _, _, _, _, _]) rfl rfl fun b3 hb3 => ?_
  refine wp_norm [_, _] rfl ?_
  refine op_alloc (cs := [_, _]) rfl rfl fun b4 hb4 => ?_
  refine wp_norm [_, _, _] rfl ?_
  refine xp_seq ?_
  refine xp_dw [true, false, false] rfl rfl rfl ?_
  refine dw_pure (i := 0) rfl (by decide +kernel) (pv_move (v := .pointer (some ⟨b, 0, none⟩)) rfl) ?_
  refine dw_pure (i := 1) rfl (by decide +kernel) (pv_fieldAddr rfl rfl rfl rfl 5 rfl) ?_
  refine dw_load (i := 2) rfl (by decide +kernel) ?_
  refine op_loadP 1 (v := .slice _ _ _) rfl rfl rfl rfl ?_
  refine dw_pure (i := 3) rfl (by decide +kernel) (pv_len rfl rfl) ?_
  refine dw_pure (i := 5) rfl (by decide +kernel) (pv_move (v := .pointer (some ⟨b, 0, none⟩)) rfl) ?_
  refine dw_pure (i := 6) rfl (by decide +kernel) (pv_fieldAddr rfl rfl rfl rfl 2 rfl) ?_
  refine dw_load (i := 7) rfl (by decide +kernel) ?_
  refine op_loadP 1 (v := .int .i64 _) rfl rfl rfl rfl ?_
  refine dw_eff (i := 4) rfl (by decide +kernel) ?_
  refine op_fnMM [] [_] [_, _] (vs := [.pointer _, .int .i64 _]) rfl rfl rfl ((Pick_ok b x m.buttons.length (by omega) h)) ?_
  rintro _ h1 _ E1 ⟨x1, l, rfl, ⟨A1, c1, rfl, R1⟩, k1, k2, k3⟩
  refine ⟨ext_wlm E1 _, ?_⟩
  refine dw_norm [_, _, _] rfl ?_
  refine dw_last (i := 8) rfl (by decide +kernel) (by decide +kernel) ?_
  refine op_fnMM [] [_] [_, _] (vs := [.pointer _, .int .i64 _]) rfl rfl rfl (fnM_args (by simp only [List.cons.injEq, Value.int.injEq, true_and, and_true]; omega) (Pick_ok b x1 m.regs.toNat (by omega) h1)) ?_
  rintro _ h2 _ E2 ⟨x2, l2, rfl, ⟨A2, c2, rfl, R2⟩, j1, j2, j3⟩
  refine dw_norm [_, _, _] rfl ?_
  refine dw_pure (i := 9) rfl (by decide +kernel) (pv_build (zc := [_, _]) (vs := [(0, .slice _ _ _), (1, .slice _ _ _)]) (cs := [_, _]) rfl rfl rfl rfl rfl rfl) ?_
  refine dw_last (i := 10) rfl (by decide +kernel) (by decide +kernel) ?_
  refine op_storeP 2 (v := .agg #[.slice _ _ _, .slice _ _ _]) (vs := [_, _]) (c' := [_, _]) rfl rfl rfl rfl rfl rfl rfl rfl rfl ?_
  refine dw_norm [_, _, _] rfl ?_
  refine dw_end rfl ?_
  refine xp_ret ?_
  refine res_list (vs := [_]) Try.results19 ⟨resV_agg 2 rfl rfl rfl rfl rfl (vs := [.slice _ _ _, .slice _ _ _]) rfl, trivial⟩ fun V => ?_
  obtain ⟨h9, E9, e9, V9⟩ := wl_drop [_, _] [_] V
  exact ⟨h9, _, e9, V9, Ext.trans (Ext.trans E1 E2) E9, x2, ⟨l, l2⟩, rfl, ⟨_, _, rfl, ⟨A1, c1, rfl, (R1.ext E2).ext E9⟩, ⟨A2, c2, rfl, R2.ext E9⟩⟩, ⟨k1, k2⟩, set_of (by omega) j1 j2⟩
theorem Ints_okM (l : List Int) (A : Option Addr) (c : Nat) (h : AH) (R : Row h 1 intC A l) (hl : l.length < 2 ^ 20) :
    FnM Try.prog (.func (.func 56) #[] ([] : List Value).toArray) [.slice A l.length c] h [] (fun v h' M' => ∃ a : Acc, M' = [a.p] ∧ v = .slice a.A a.n a.c ∧ AccR 3 1 (l.flatMap intC) a) := by
  refine fnM_body rfl rfl Try.func56 rfl Try.ntmps56 rfl ?_
  refine xp_seq ?_
  refine xp_region rfl ?_
  refine op_pure (pv_assign (v := .slice _ _ _) rfl) ?_
  refine xp_seq ?_
  refine xp_region rfl ?_
  refine op_buildSlice (zc := [_]) (vs := []) (cs := []) rfl rfl rfl rfl rfl rfl rfl fun b3 hb3 => ?_
  refine wp_norm [_] rfl ?_
  refine op_pure (pv_move (v := .slice _ _ _) rfl) ?_
  refine op_appendR 0 accR_new rfl rfl rfl (fun V => R.2.ext (Ext.trans (Ext.refl _) (ext_wl V))) (flat_len R.1) (flat_plain intP2 l) rfl rfl rfl rfl rfl rfl rfl (by omega) rfl (by rw [flat_len R.1, List.length_nil]; omega) fun a0 h1a E1a ha0 => ?_
  refine wp_norm [_] rfl ?_
  refine op_pure (pv_assign (v := .slice _ _ _) rfl) ?_
  refine xp_ret ?_
  refine res_list (vs := [_]) Try.results56 ⟨resV_tmp rfl rfl, trivial⟩ fun V => ?_
  exact ⟨_, [_], rfl, V, E1a, a0, rfl, rfl, ha0⟩
/-- A machine's value whose lists have been copied. -/
abbrev machA (a1 a2 a3 a4 : Acc) (m : MachP) : Value := .agg #[.int .i64 m.rods, .int .i64 m.levers, .int .i64 m.regs, .int .i64 m.travel, .int .i64 m.opn, .slice a1.A a1.n a1.c, .slice a2.A a2.n a2.c, .slice a3.A a3.n a3.c, .slice a4.A a4.n a4.c]
theorem CopyMachine_okM (m : MachP) (AB AQ AL AW : Option Addr) (cB cQ cL cW : Nat) (h : AH) (R : MachR h AB AQ AL AW m) (h0 : m.buttons.length < 2 ^ 20) (h1 : m.pins.length < 2 ^ 20) (h2 : m.links.length < 2 ^ 20) (h3 : m.weights.length < 2 ^ 20) :
    FnM Try.prog (.func (.func 20) #[] ([] : List Value).toArray) [machV AB AQ AL AW cB cQ cL cW m] h [] (fun v h' M' => ∃ a1 a4 a2 a3 : Acc, M' = [a1.p, a4.p, a2.p, a3.p] ∧ v = machA a1 a2 a3 a4 m
      ∧ AccR 3 1 (m.buttons.flatMap intC) a1 ∧ AccR 36 3 (m.pins.flatMap pinC) a2 ∧ AccR 39 4 (m.links.flatMap linkC) a3 ∧ AccR 3 1 (m.weights.flatMap intC) a4) := by
  refine fnM_body rfl rfl Try.func20 rfl Try.ntmps20 rfl ?_
  refine xp_seq ?_
  refine xp_region rfl ?_
  refine op_box (v := .agg #[.int .i64 _, .int .i64 _, .int .i64 _, .int .i64 _, .int .i64 _, .slice _ _ _, .slice _ _ _, .slice _ _ _, .slice _ _ _]) (cs := [_, _, _, _, _, _, _, _, _]) rfl rfl fun b1 hb1 => ?_
  refine wp_norm [_] rfl ?_
  refine op_alloc (cs := [_, _, _, _, _, _, _, _, _]) rfl rfl fun b2 hb2 => ?_
  refine wp_norm [_, _] rfl ?_
  refine xp_seq ?_
  refine xp_dw [] rfl rfl rfl ?_
  refine dw_pure (i := 0) rfl (by decide +kernel) (pv_fieldAddr rfl rfl rfl rfl 5 rfl) ?_
  refine dw_load (i := 1) rfl (by decide +kernel) ?_
  refine op_loadP 0 (v := .slice _ _ _) rfl rfl rfl rfl ?_
  refine dw_pure (i := 3) rfl (by decide +kernel) (pv_fieldAddr rfl rfl rfl rfl 8 rfl) ?_
  refine dw_load (i := 4) rfl (by decide +kernel) ?_
  refine op_loadP 0 (v := .slice _ _ _) rfl rfl rfl rfl ?_
  refine dw_eff (i := 2) rfl (by decide +kernel) ?_
  refine op_fnV rfl rfl (Ints_okM m.buttons AB cB h (R.b.ext (Ext.refl _)) h0) ?_
  rintro _ g0 _ Vmn G0 ⟨a1, rfl, rfl, ha1⟩
  refine ⟨ext_out Vmn G0, ?_⟩
  refine dw_norm [_, _, _] rfl ?_
  refine dw_pure (i := 6) rfl (by decide +kernel) (pv_fieldAddr rfl rfl rfl rfl 5 rfl) ?_
  refine dw_last (i := 5) rfl (by decide +kernel) (by decide +kernel) ?_
  refine op_fnMM [_, _, _] [] [] rfl rfl rfl (Ints_okM m.weights AW cW g0 (R.w.ext G0) h3) ?_
  rintro _ g1 _ G1 ⟨a4, rfl, rfl, ha4⟩
  refine dw_norm [_, _, _, _] rfl ?_
  refine dw_last (i := 7) rfl (by decide +kernel) (by decide +kernel) ?_
  refine op_storeP 0 (v := .slice _ _ _) (vs := [_]) (c' := [_, _, _, _, _, _, _, _, _]) rfl rfl rfl rfl rfl rfl rfl rfl rfl ?_
  refine dw_norm [_, _, _, _] rfl ?_
  refine dw_pure (i := 8) rfl (by decide +kernel) (pv_fieldAddr rfl rfl rfl rfl 8 rfl) ?_
  refine dw_last (i := 9) rfl (by decide +kernel) (by decide +kernel) ?_
  refine op_storeP 0 (v := .slice _ _ _) (vs := [_]) (c' := [_, _, _, _, _, _, _, _, _]) rfl rfl rfl rfl rfl rfl rfl rfl rfl ?_
  refine dw_norm [_, _, _, _] rfl ?_
  refine dw_end rfl ?_
  refine xp_seq ?_
  refine xp_dw [false, false, false, false, true, true] rfl rfl rfl ?_
  refine dw_pure (i := 1) rfl (by decide +kernel) (pv_fieldAddr rfl rfl rfl rfl 6 rfl) ?_
  refine dw_load (i := 2) rfl (by decide +kernel) ?_
  refine op_loadP 0 (v := .slice _ _ _) rfl rfl rfl rfl ?_
  refine dw_pure (i := 5) rfl (by decide +kernel) (pv_fieldAddr rfl rfl rfl rfl 7 rfl) ?_
  refine dw_load (i := 6) rfl (by decide +kernel) ?_
  refine op_loadP 0 (v := .slice _ _ _) rfl rfl rfl rfl ?_
  refine dw_eff (i := 0) rfl (by decide +kernel) ?_
  refine op_buildSlice (zc := [_, _, _]) (vs := []) (cs := []) rfl rfl rfl rfl rfl rfl rfl fun b11 hb11 => ?_
  refine ⟨ext_newM hb11 _, ?_⟩
  refine dw_norm [_, _, _, _, _] rfl ?_
  refine dw_eff (i := 3) rfl (by decide +kernel) ?_
  refine op_appendR 4 accR_new rfl rfl rfl (fun V => R.q.2.ext (Ext.trans (Ext.trans G0 G1) (ext_wl V))) (flat_len R.q.1) (flat_plain pinP m.pins) rfl rfl rfl rfl rfl rfl rfl (by omega) rfl (by rw [flat_len R.q.1, List.length_nil]; omega) fun a2 h1a E1a ha2 => ?_
  refine ⟨ext_wlm E1a _, ?_⟩
  refine dw_norm [_, _, _, _, _] rfl ?_
  refine dw_pure (i := 8) rfl (by decide +kernel) (pv_fieldAddr rfl rfl rfl rfl 6 rfl) ?_
  refine dw_eff (i := 4) rfl (by decide +kernel) ?_
  refine op_buildSlice (zc := [_, _, _, _]) (vs := []) (cs := []) rfl rfl rfl rfl rfl rfl rfl fun b15 hb15 => ?_
  refine ⟨ext_newM hb15 _, ?_⟩
  refine dw_norm [_, _, _, _, _, _] rfl ?_
  refine dw_last (i := 7) rfl (by decide +kernel) (by decide +kernel) ?_
  refine op_appendR 5 accR_new rfl rfl rfl (fun V => R.l.2.ext (Ext.trans (Ext.trans (Ext.trans G0 G1) E1a) (ext_wl V))) (flat_len R.l.1) (flat_plain linkP m.links) rfl rfl rfl rfl rfl rfl rfl (by omega) rfl (by rw [flat_len R.l.1, List.length_nil]; omega) fun a3 h2a E2a ha3 => ?_
  refine dw_norm [_, _, _, _, _, _] rfl ?_
  refine dw_last (i := 9) rfl (by decide +kernel) (by decide +kernel) ?_
  refine op_storeP 0 (v := .slice _ _ _) (vs := [_]) (c' := [_, _, _, _, _, _, _, _, _]) rfl rfl rfl rfl rfl rfl rfl rfl rfl ?_
  refine dw_norm [_, _, _, _, _, _] rfl ?_
  refine dw_pure (i := 10) rfl (by decide +kernel) (pv_fieldAddr rfl rfl rfl rfl 7 rfl) ?_
  refine dw_last (i := 11) rfl (by decide +kernel) (by decide +kernel) ?_
  refine op_storeP 0 (v := .slice _ _ _) (vs := [_]) (c' := [_, _, _, _, _, _, _, _, _]) rfl rfl rfl rfl rfl rfl rfl rfl rfl ?_
  refine dw_norm [_, _, _, _, _, _] rfl ?_
  refine dw_end rfl ?_
  refine xp_seq ?_
  refine xp_region rfl ?_
  refine op_loadPA 0 (vs := [.int .i64 _, .int .i64 _, .int .i64 _, .int .i64 _, .int .i64 _, .slice _ _ _, .slice _ _ _, .slice _ _ _, .slice _ _ _]) rfl rfl rfl rfl rfl ?_
  refine op_storeP 1 (v := .agg #[.int .i64 _, .int .i64 _, .int .i64 _, .int .i64 _, .int .i64 _, .slice _ _ _, .slice _ _ _, .slice _ _ _, .slice _ _ _]) (vs := [_, _, _, _, _, _, _, _, _]) (c' := [_, _, _, _, _, _, _, _, _]) rfl rfl rfl rfl rfl rfl rfl rfl rfl ?_
  refine wp_norm [_, _, _, _, _, _] rfl ?_
  refine xp_ret ?_
  refine res_list (vs := [_]) Try.results20 ⟨resV_agg 1 rfl rfl rfl rfl rfl (vs := [.int .i64 _, .int .i64 _, .int .i64 _, .int .i64 _, .int .i64 _, .slice _ _ _, .slice _ _ _, .slice _ _ _, .slice _ _ _]) rfl, trivial⟩ fun V => ?_
  obtain ⟨h9, E9, e9, V9⟩ := wl_shed [_, _] [_, _, _, _] V
  exact ⟨h9, _, e9, V9, Ext.trans (Ext.trans (Ext.trans (Ext.trans G0 G1) E1a) E2a) E9, a1, a4, a2, a3, rfl, rfl, ha1, ha2, ha3, ha4⟩
end
end Go.Proofs.Ythphpbdmbmiaiaa
/- The own logic, part U: from a walk to the row of a law. Conditions: none. -/
namespace Go.HL
open Go Go.Wx Go.RowKit
/-- What is asked at the end of a law. -/
def lawK (t : Nat) (h0 : AH) : Post
  | .normal, S, D, L, h => D = [] ∧ (Valid h L → Ext h0 (wl h L)) ∧ S t = .bool true
  | .ret, S, D, L, h => D = [] ∧ (Valid h L → Ext h0 (wl h L)) ∧ S t = .bool true
  | _, _, _, _, _ => False
theorem below_of {w w' : World} (se : SameEnv w w') (e : Ext (absH w.heap) (absH w'.heap)) : Below w.heap.size w w' := by
  have hb : ∀ k, k < w.heap.size → w'.heap[k]? = w.heap[k]? := by
    intro k hk
    have h1 : absH w.heap k = some w.heap[k] := Array.getElem?_eq_getElem hk
    have h2 : w'.heap[k]? = some w.heap[k] := e k _ h1
    rw [h2]
    exact (Array.getElem?_eq_getElem hk).symm
  refine ⟨se.os, se.tape, se.output, ?_, hb⟩
  rcases Nat.lt_or_ge w'.heap.size w.heap.size with h1 | h1
  · have h2 := hb w'.heap.size h1
    rw [Array.getElem?_eq_getElem h1] at h2
    simp at h2
  · exact h1
variable [Lvl]
/-- A slice of ints that came in. -/
theorem row_of {w : World} {a : Option Addr} {len cap : Nat} {zs : List Int} (h : (a = none ∧ len = 0 ∧ cap = 0 ∧ zs = []) ∨
    ∃ x, a = some x ∧ len ≤ cap ∧ cap ≤ maxLen ∧ zs.length = cap ∧ (∀ i, i < zs.length → w.cell? (x.add i) = some (.int .i64 (zs.getD i 0))) ∧ ∀ n ∈ zs, (Lit.int .i64 n).wf = true) :
    ∃ l : List Int, l.length = len ∧ Row (absH w.heap) 1 intC a l ∧ len ≤ maxLen ∧ ∀ n ∈ l, (Lit.int .i64 n).wf = true := by
  rcases h with ⟨rfl, rfl, rfl, rfl⟩ | ⟨x, rfl, hl, hm, hz, hc, hw⟩
  · exact ⟨[], rfl, ⟨fun _ h => (by cases h), Rd.nil _ _⟩, Nat.zero_le _, fun _ h => (by cases h)⟩
  · refine ⟨zs.take len, by rw [List.length_take]; omega, ⟨fun _ _ => rfl, ?_⟩, by omega, fun n hn => hw n (List.mem_of_mem_take hn)⟩
    have hflat : ∀ l : List Int, l.flatMap intC = l.map (Value.int .i64) := by
      intro l
      induction l with
      | nil => rfl
      | cons a l ih => simp [List.flatMap_cons, ih, intC]
    rw [hflat]
    intro hne
    have hpos : 0 < zs.length := by
      rcases Nat.eq_zero_or_pos zs.length with h0 | h0
      · rw [List.eq_nil_of_length_eq_zero h0] at hne; simp at hne
      · exact h0
    obtain ⟨g, off, sp⟩ := x
    have h0 := hc 0 hpos
    have hsp : sp = none := by
      cases sp with
      | none => rfl
      | some s =>
        exfalso
        have : w.cell? ((⟨g, off, some s⟩ : Addr).add 0) = none := by
          simp only [Addr.add]
          rw [cell_abs]
          unfold cellA
          split <;> simp
        rw [this] at h0
        cases h0
    subst hsp
    refine ⟨g, off, rfl, fun j u hu => ?_⟩
    have hj : j < zs.length := by
      have := (List.getElem?_eq_some_iff.1 hu).1
      rw [List.length_map, List.length_take] at this
      omega
    have h1 := hc j hj
    rw [cell_abs, add_none] at h1
    rw [h1]
    rw [List.getElem?_map, List.getElem?_take] at hu
    split at hu
    · rw [List.getElem?_eq_getElem hj] at hu
      simp only [Option.map_some, Option.some.injEq] at hu
      rw [← hu]
      simp [List.getD_eq_getElem?_getD, hj]
    · cases hu
end Go.HL
/- The own logic, part Uc: from a walk to the run of a law that starts goroutines. Conditions: none. -/
namespace Go.HL
open Go Go.Wx Go.RowKit Go.Conc Go.ConcN
/-- The run of a law: it ends, true, and leaves what was there. -/
def RunsTrue (P : Program) (f : FuncId) (args : Array Value) (w : World) : Prop :=
  ∃ M last o w' t', runNT P (M + 1) (solo (G (Frame.enter P f args .normal) []) w) #[] = (.ended o w', t') ∧ runN P M (solo (G (Frame.enter P f args .normal) []) w) = .next last ∧ step P last = .ended o w' ∧
    Go.Conc.Good P (fun v W' => v = .bool true ∧ Below w.heap.size w W') last o w' t'
theorem runs_body {P : Program} {f : FuncId} {fn : Func} {c : Code} {args : Array Value} {n t : Nat} {w : World} (hf : P.funcs[f]? = some fn) (hb : fn.body = some c) (hn : fn.ntmps = n) (ha : Nat.ble args.size n = true) (hr : fn.results = #[.tmp t]) (ht : Nat.blt t n = true) (hi : P.inits.idxOf? f = none)
    (x : ∀ h, h = absH w.heap → @xp ⟨true, none, none⟩ P n none c (lawK t h) (argS args) [] [] h) :
    RunsTrue P f args w := by
  letI : Lvl := ⟨true, none, none⟩
  have he : Frame.enter P f args .normal = mk { (default : Frame) with fn := f, kind := .normal, roundOf := none } n (argS args) [] [.code c] := by
    simp [Frame.enter, mk, hf, hb, hn, enter_tmps n args (Nat.le_of_ble_eq_true ha)]
  have hres : ∀ (S : Sl) (w' : World), S t = .bool true → results fn (arr n S) = .pure (.bool true) := by
    intro S w' hs
    unfold results
    rw [hr, List.mapM_toArray]
    have e1 : (arr n S).getD t undef = .bool true := by rw [arr_getD, if_pos (Nat.lt_of_lt_of_le (Nat.lt_succ_self t) (Nat.le_of_ble_eq_true ht)), hs]
    show Sem.pure ((arr n S).getD t undef) = _
    rw [e1]
  have x1 := x _ rfl (absH w.heap) (by have := Fits.nil (valid_nil (Fin.abs w.heap)); rw [wl_nil] at this; exact this) { (default : Frame) with fn := f, kind := .normal, roundOf := none } rfl [] []
  have x2 : Rch P (fun fr cs' H => cs' = [] ∧ fr.mode = .returning ∧ fr.defers = [] ∧ fr.kind = .normal ∧ fr.fn = f ∧ (∃ S, fr.tmps = arr n S ∧ S t = .bool true) ∧ Ext (absH w.heap) H) (mk { (default : Frame) with fn := f, kind := .normal, roundOf := none } n (argS args) [] [.code c]) [] (absH w.heap) := by
    refine x1.bind ?_
    rintro fr cs' H ⟨rfl, e, S', D', L', h', V', kk, a⟩
    cases e with
    | normal =>
      obtain ⟨rfl, ex, hs⟩ := kk
      have a' : fr = mk { (default : Frame) with fn := f, kind := .normal, roundOf := none } n S' [] [] := a
      subst a'
      have hH : H = wl h' L' := by rw [V'.eq]; exact hun_nil _
      subst hH
      refine .ctl (fr' := { mk { (default : Frame) with fn := f, kind := .normal, roundOf := none } n S' [] [] with mode := .returning }) (cs' := []) (fun w => by simp [stepG, stepG.exec, mk]) (.done ⟨rfl, rfl, rfl, rfl, rfl, ⟨S', rfl, hs⟩, ex V'.valid⟩)
    | ret =>
      obtain ⟨rfl, ex, hs⟩ := kk
      obtain ⟨todo, rfl⟩ := a.1 rfl
      have hH : H = wl h' L' := by rw [V'.eq]; exact hun_nil _
      subst hH
      exact .done ⟨rfl, rfl, rfl, rfl, rfl, ⟨S', rfl, hs⟩, ex V'.valid⟩
    | _ => exact kk.elim
  unfold RunsTrue
  rw [he]
  refine x2.ends rfl rfl ?_
  rintro fr cs h w' ⟨rfl, hm, hd, hk, hfn, ⟨S, htm, hs⟩, ex⟩ se rfl
  have hr1 := hres S w' hs
  have hru : (results fn fr.tmps).runT P w' #[] = (.ok (.bool true) w', #[]) := by rw [htm, hr1]; rfl
  have hf' : P.funcs[fr.fn]? = some fn := by rw [hfn]; exact hf
  have hi' : P.inits.idxOf? fr.fn = none := by rw [hfn]; exact hi
  have h1 : stepG P true (G fr []) w' = unwind P true fr [] none w' := by
    simp [stepG, stepG.exec, hm]
  have h2 : unwind P true fr [] none w' = GStep.after (seen P fr.fn #[]) (.ended (.done (.bool true)) w') := by
    unfold unwind
    rw [hd]
    simp only [hm, hf', hru]
    unfold doReturn
    simp only [hk, hi']
    rfl
  refine ⟨rfl, .bool true, seen P fr.fn #[], ?_, fun e he => ?_, rfl, below_of se ex⟩
  · rw [h1, h2]
    simp [GStep.after]
  · simp [seen] at he
end Go.HL
/- Plain: machines that pass the check; what levers do. Conditions: none. -/
namespace Go.Rd
open Go Go.HL Go.Wx
variable [Lvl]
theorem chk_of {m : MachP} (M : MOK m) : chkM m = 0 := by
  unfold chkM
  have h := M.rods; have h2 := M.levers; have h3 := M.regs; have h4 := M.travel; have h5 := M.opn
  rw [if_neg (by simp [inM]; omega), if_neg (by simp [inM]; omega), if_neg (by simp [inM]; omega), if_neg (by simp [inM]; omega), if_neg (by simp [inM]; omega)]
  have b1 : firstErr (checkButtonM m) m.buttons = 0 := firstErr_iff.2 fun b hb => by
    have := M.btn b hb
    unfold checkButtonM
    rw [if_neg (by simp [inM]; omega)]
  have b2 : firstErr (checkPinM m) m.pins = 0 := firstErr_iff.2 fun p hp => by
    obtain ⟨a, b, c⟩ := M.pin p hp
    unfold checkPinM
    rw [if_neg (by simp [inM]; omega), if_neg (by simp [inM]; omega), if_neg (by simp [inM]; omega)]
  have b3 : firstErr (checkLinkM m) m.links = 0 := firstErr_iff.2 fun l hl => by
    obtain ⟨a, b, c, d, e⟩ := M.link l hl
    unfold checkLinkM
    rw [if_neg (by simp [inM]; omega), if_neg (by simp [inM]; omega), if_neg c, if_neg (by simp [inM]; omega), if_neg (by simp [inM]; omega)]
  have b4 : firstErr checkWeightM m.weights = 0 := firstErr_iff.2 fun w hw => by
    have := M.wt w hw
    unfold checkWeightM
    rw [if_neg (by simp [inM]; omega)]
  rw [if_neg (by have := M.bl; omega), b1, if_neg (by decide), if_neg (by have := M.pl; omega), b2, if_neg (by decide), if_neg (by have := M.ll; omega), b3, if_neg (by decide), if_neg (by have := M.wl; omega), b4]
theorem hand_of {m : MachP} {a : HandP} (M : MOK m) (H : HOK m a) : checkHandM m a = 0 := by
  unfold checkHandM
  rw [chk_of M, if_neg (by decide), checkSet_iff.2 H.b, if_neg (by decide), checkSet_iff.2 H.o]
theorem MOK.wlen {m : MachP} (M : MOK m) : m.weights.length < 2 ^ 40 := by have := M.wl; have := M.levers; omega
theorem HOK.blen {m : MachP} {a : HandP} (M : MOK m) (H : HOK m a) : a.buttons.length < 2 ^ 40 := by have := set_len H.b; have := M.bl; omega
theorem HOK.olen {m : MachP} {a : HandP} (M : MOK m) (H : HOK m a) : a.on.length < 2 ^ 40 := by
  have := M.regs
  have := set_len (below := m.regs.toNat) (by rw [Int.toNat_of_nonneg (by omega)]; exact H.o)
  omega
theorem lifted_at {m : MachP} {a : HandP} {depth : Int} {k : Nat} (hk : k < (liftedM m (turnedM m a depth)).length) : (liftedM m (turnedM m a depth))[k] = liftF m a depth k := by
  unfold liftF
  rw [Int.toNat_natCast, List.getD_eq_getElem?_getD, List.getElem?_eq_getElem hk]
  rfl
theorem MOK.pins {m : MachP} (M : MOK m) : ∀ p ∈ m.pins, 0 ≤ p.lever ∧ 0 ≤ p.rod := fun p hp => ⟨(M.pin p hp).2.1.1, (M.pin p hp).1.1⟩
theorem MOK.cap {m : MachP} (M : MOK m) {ps : List PinP} {ls : List LinkP} (hp : ps.length ≤ 8) (hl : ls.length ≤ 4)
    (h1 : ∀ p ∈ ps, (0 ≤ p.rod ∧ p.rod < m.rods) ∧ (0 ≤ p.lever ∧ p.lever < m.levers) ∧ (0 ≤ p.lag ∧ p.lag ≤ m.travel))
    (h2 : ∀ l ∈ ls, (0 ≤ l.frm ∧ l.frm < m.rods) ∧ (0 ≤ l.to ∧ l.to < m.rods) ∧ l.frm ≠ l.to ∧ (-1 ≤ l.reg ∧ l.reg < m.regs) ∧ (1 ≤ l.lag ∧ l.lag ≤ m.travel)) : MOK { m with pins := ps, links := ls } :=
  ⟨M.rods, M.levers, M.regs, M.travel, M.opn, M.bl, M.btn, hp, h1, hl, h2, M.wl, M.wt⟩
end Go.Rd
/- The own logic, part GS: a part of an array as a slice. Conditions: none. -/
namespace Go.HL
open Go
variable [Lvl]
theorem rd_take {H : AH} {A : Option Addr} {cs : List Value} (r : Rd H A cs) (k : Nat) : Rd H A (cs.take k) := fun hne => by
  obtain ⟨g, off, ha, c⟩ := r (fun e => hne (by rw [e, List.take_nil]))
  refine ⟨g, off, ha, fun j u hu => c j u ?_⟩
  rw [List.getElem?_take] at hu
  split at hu
  · exact hu
  · cases hu
section
variable {P : Program} {n : Nat} {d : Option Tmp} {ty : TypeId} {ps : String} {af : Array Edge} {S : Sl}
theorem pv_sliceAH {x hi : Operand} {t e : TypeId} {len m g off : Nat} (j : Nat) {k : IntKind} {j' : Int} (hx : ev n S x = .pointer (some ⟨g, off, none⟩)) (hh : ev n S hi = .int k j') (ej : j' = j) (ht : pev P (underlying t) = some (.array len e)) (hs : pev P (sizeOf e) = some m) (hl : 0 < len) (hj : j ≤ len) :
    pev P (execOp (ev n S) ⟨d, .slice t x none (some hi) none, ty, ps, af, none⟩) = some (.value (.slice (some ⟨g, off, none⟩) j len)) := by
  subst ej
  simp only [execOp, hx, hh, Option.map]
  refine (pev_bind (a := .slice (some ⟨g, off, none⟩) j len) ?_).trans rfl
  unfold Instr.sliceAt
  refine (pev_mbind ht).trans ?_
  simp only
  refine (pev_mbind (a := ⟨g, off, none⟩) rfl).trans ?_
  have hb : pev P (Instr.sliceBounds false len len none (some (.int k (j : Int))) none) = some (0, j, len) := by
    unfold Instr.sliceBounds
    refine (pev_mbind (a := len) rfl).trans ?_
    have h1 : pev P (Instr.sliceBound (.int k (j : Int)) len .sliceAlen) = some j := by
      unfold Instr.sliceBound
      refine (pev_mbind (a := (k, (j : Int))) rfl).trans ?_
      simp only
      rw [if_pos ⟨by omega, by omega⟩]
      rfl
    refine (pev_mbind h1).trans ?_
    rfl
  refine (pev_mbind hb).trans ?_
  simp only
  refine (pev_mbind hs).trans ?_
  have e0 : (if len = 0 then (⟨g, off, none⟩ : Addr) else (⟨g, off, none⟩ : Addr).add (0 * m)) = ⟨g, off, none⟩ := by rw [if_neg (by omega)]; simp [Addr.add]
  show some (Value.slice (some (if len = 0 then (⟨g, off, none⟩ : Addr) else (⟨g, off, none⟩ : Addr).add (0 * m))) (j - 0) (len - 0)) = _
  rw [e0]
  rfl
end
end Go.HL
/- Walks of package rod: how far rods turn. Conditions: as each theorem states. -/
namespace Go.Proofs.Ythphpbdmbmiaiaa
open Go Go.HL Go.Proofs Go.Wx Go.Rd
section
variable [Lvl]
set_option maxRecDepth 100000
theorem plain_take {cs : List Value} (k : Nat) (h : cs.all plainB = true) : (cs.take k).all plainB = true := by
  rw [List.all_eq_true] at h ⊢
  exact fun x hx => h x (List.mem_of_mem_take hx)
def turnsL (m : MachP) (a : HandP) : List Int := if checkHandM m a = 0 then (turnedM m a m.travel).take m.rods.toNat else []
theorem Turns_ok (hph : Lvl.ph = true) (m : MachP) (a : HandP) (AB AQ AL AW HA OA : Option Addr) (cB cQ cL cW cH cO : Nat) (h : AH) (RM : MachR h AB AQ AL AW m) (RH : HandR h HA OA a) (h0 : m.weights.length < 2 ^ 40) (h1 : a.buttons.length < 2 ^ 40) (h2 : a.on.length < 2 ^ 40) :
    FnT Try.prog 29 #[machV AB AQ AL AW cB cQ cL cW m, handV HA OA cH cO a] h (fun v h' => ∃ L, v = .tuple #[L, .int .i64 (checkHandM m a)] ∧ SlR h' 1 intC (turnsL m a) L) := by
  refine call_body Try.func29 rfl Try.ntmps29 rfl ?_
  refine xp_seq ?_
  refine xp_region rfl ?_
  refine op_box (v := .agg #[.int .i64 _, .int .i64 _, .int .i64 _, .int .i64 _, .int .i64 _, .slice _ _ _, .slice _ _ _, .slice _ _ _, .slice _ _ _]) (cs := [_, _, _, _, _, _, _, _, _]) rfl rfl fun b2 hb2 => ?_
  refine wp_norm [_] rfl ?_
  refine op_box (v := .agg #[.slice _ _ _, .slice _ _ _]) (cs := [_, _]) rfl rfl fun b3 hb3 => ?_
  refine wp_norm [_, _] rfl ?_
  refine op_pure (pv_assign (v := .slice _ _ _) rfl) ?_
  refine op_pure (pv_assign (v := .int .i64 _) rfl) ?_
  refine xp_seq ?_
  refine xp_seq ?_
  refine xp_region rfl ?_
  refine op_loadPA 0 (vs := [.int .i64 _, .int .i64 _, .int .i64 _, .int .i64 _, .int .i64 _, .slice _ _ _, .slice _ _ _, .slice _ _ _, .slice _ _ _]) rfl rfl rfl rfl rfl ?_
  refine op_loadPA 1 (vs := [.slice _ _ _, .slice _ _ _]) rfl rfl rfl rfl rfl ?_
  refine op_fn (caps := []) (vs := [.agg #[.int .i64 _, .int .i64 _, .int .i64 _, .int .i64 _, .int .i64 _, .slice _ _ _, .slice _ _ _, .slice _ _ _, .slice _ _ _], .agg #[.slice _ _ _, .slice _ _ _]]) rfl rfl rfl (checkHand_ok m a AB AQ AL AW HA OA cB cQ cL cW cH cO h (RM.ext (Ext.refl _)) (RH.ext (Ext.refl _)) h0 h1 h2) ?_
  rintro _ h3 E3 rfl
  refine op_pure (pv_assign (v := .int .i64 _) rfl) ?_
  refine xp_seq ?_
  refine xp_region rfl ?_
  refine op_pure (pv_move (v := .int .i64 _) rfl) ?_
  refine op_pure (pv_of (v := .bool _) rfl) ?_
  refine xp_cond rfl (fun hc => ?_) (fun hc => ?_)
  · skip
    have hc' : checkHandM m a ≠ 0 := by simpa using hc
    refine xp_seq ?_
    refine xp_region rfl ?_
    refine op_pure (pv_move (v := .int .i64 _) rfl) ?_
    refine op_pure (pv_assign (v := .slice _ _ _) rfl) ?_
    refine op_pure (pv_assign (v := .int .i64 _) rfl) ?_
    refine xp_ret ?_
    refine res_list (vs := [_, _]) Try.results29 ⟨resV_tmp rfl rfl, resV_tmp rfl rfl, trivial⟩ fun V => ?_
    exact ⟨(Ext.trans E3 (ext_wl V)), _, rfl, by rw [turnsL, if_neg hc']; exact ⟨none, 0, rfl, fun _ _ => rfl, Rd.nil _ _⟩⟩
  · skip
    have hc' : checkHandM m a = 0 := by simpa using hc
    obtain ⟨M, H⟩ := checkHand_ok0 hc'
    have F := fit_of M H
    have tr := M.travel
    have rd := M.rods
    obtain ⟨t0, t1, t2, t3, t4, t5, et⟩ := len6 (turned_len m a m.travel)
    refine xp_skip ?_
    refine xp_seq ?_
    refine xp_region rfl ?_
    refine op_loadPA 0 (vs := [.int .i64 _, .int .i64 _, .int .i64 _, .int .i64 _, .int .i64 _, .slice _ _ _, .slice _ _ _, .slice _ _ _, .slice _ _ _]) rfl rfl rfl rfl rfl ?_
    refine op_loadPA 1 (vs := [.slice _ _ _, .slice _ _ _]) rfl rfl rfl rfl rfl ?_
    refine op_pure (pv_fieldAddr rfl rfl rfl rfl 3 rfl) ?_
    refine op_loadP 0 (v := .int .i64 _) rfl rfl rfl rfl ?_
    have TT := turned_ok (cB := cB) (cQ := cQ) (cL := cL) (cW := cW) (cH := cH) (cO := cO) hph F (by omega) tr.2 h3 (RH.ext E3) (RM.ext E3)
    rw [et] at TT
    refine op_fn (caps := []) (vs := [.agg #[.int .i64 _, .int .i64 _, .int .i64 _, .int .i64 _, .int .i64 _, .slice _ _ _, .slice _ _ _, .slice _ _ _, .slice _ _ _], .agg #[.slice _ _ _, .slice _ _ _], .int .i64 _]) rfl rfl rfl (TT) ?_
    rintro _ h4 E4 rfl
    refine op_alloc (cs := [_, _, _, _, _, _]) rfl rfl fun b7 hb7 => ?_
    refine wp_norm [_, _, _] rfl ?_
    refine op_storeP 2 (v := .agg #[.int .i64 _, .int .i64 _, .int .i64 _, .int .i64 _, .int .i64 _, .int .i64 _]) (vs := [_, _, _, _, _, _]) (c' := [_, _, _, _, _, _]) rfl rfl rfl rfl rfl rfl rfl rfl rfl ?_
    refine wp_norm [_, _, _] rfl ?_
    refine xp_seq ?_
    refine xp_region rfl ?_
    refine op_buildSlice (zc := [_]) (vs := []) (cs := []) rfl rfl rfl rfl rfl rfl rfl fun b19 hb19 => ?_
    refine wp_norm [_, _, _, _] rfl ?_
    refine op_pure (pv_fieldAddr rfl rfl rfl rfl 0 rfl) ?_
    refine op_loadP 0 (v := .int .i64 _) rfl rfl rfl rfl ?_
    refine op_pure (pv_sliceAH m.rods.toNat rfl rfl (by omega) rfl rfl (by omega) (by omega)) ?_
    have hl6 : (List.take m.rods.toNat [Value.int .i64 t0, .int .i64 t1, .int .i64 t2, .int .i64 t3, .int .i64 t4, .int .i64 t5]).length = m.rods.toNat * 1 := by rw [List.length_take]; simp; omega
    refine op_appendR 3 accR_new rfl rfl rfl (fun V => rd_take (rdP V (i := 2) rfl) m.rods.toNat) hl6 (plain_take m.rods.toNat rfl) rfl rfl rfl rfl rfl rfl rfl (by omega) rfl (by rw [hl6, List.length_nil]; omega) fun a2 h1a E1a ha2 => ?_
    refine wp_norm [_, _, _, _] rfl ?_
    refine op_pure (pv_assign (v := .slice _ _ _) rfl) ?_
    refine op_pure (pv_assign (v := .int .i64 _) rfl) ?_
    refine xp_ret ?_
    refine res_list (vs := [_, _]) Try.results29 ⟨resV_tmp rfl rfl, resV_tmp rfl rfl, trivial⟩ fun V => ?_
    refine ⟨(Ext.trans (Ext.trans (Ext.trans E3 E4) E1a) (ext_wl V)), .slice a2.A a2.n a2.c, by rw [hc']; rfl, ?_⟩
    have e2 : ([] : List Value) ++ List.take m.rods.toNat [Value.int .i64 t0, .int .i64 t1, .int .i64 t2, .int .i64 t3, .int .i64 t4, .int .i64 t5] = (turnsL m a).flatMap intC := by rw [turnsL, if_pos hc', et, List.nil_append, flat_intC, tV, List.map_take]; rfl
    rw [e2] at ha2
    exact AccP.row (i := 3) ha2 (by omega) (fun _ _ => rfl) V rfl
end
end Go.Proofs.Ythphpbdmbmiaiaa
/- Walks: other numbers, another order. Conditions: as each theorem states. -/
namespace Go.Proofs.Ythphpbdmbmiaiaa
open Go Go.HL Go.Proofs Go.Wx Go.Rd
section
variable [Lvl]
set_option maxRecDepth 100000
theorem posN_sum (l : List Int) : ∀ k, posN l k = sumF (fun i => if 0 < l.getD i 0 then 1 else 0) k
  | 0 => rfl
  | k + 1 => by
    rw [posN, sumF, posN_sum l k]
    split <;> omega
theorem wgtN_sum (ws l : List Int) : ∀ k, wgtN ws l k = sumF (fun i => if 0 < l.getD i 0 then ws.getD i 0 else 0) k
  | 0 => rfl
  | k + 1 => by
    rw [wgtN, sumF, wgtN_sum ws l k]
    split <;> omega
theorem force_sum {m : MachP} {a : HandP} (M : MOK m) (H : HOK m a) : forceV m a = sumF (fun i => if 0 < turnF m a m.travel i then 1 else 0) m.rods.toNat + sumF (fun i => if 0 < liftF m a m.travel i then m.weights.getD i 0 else 0) m.levers.toNat := by
  have F := fit_of M H
  have tr := M.travel
  have rd := M.rods
  rw [forceV, if_pos (hand_of M H), forceM, posN_sum, wgtN_sum, lifted_len]
  congr 1
  have e : (6 : Nat) = m.rods.toNat + (6 - m.rods.toNat) := by omega
  have h := sumF_split (fun i => if 0 < turnF m a m.travel i then (1 : Int) else 0) m.rods.toNat (6 - m.rods.toNat) (fun i hi => by
    show (if 0 < turnF m a m.travel i then (1 : Int) else 0) = 0
    rw [turn_out M F (by omega) (by omega), if_neg (by omega)])
  rw [← e] at h
  rw [← h]
  rfl
theorem ren_force {o1 o2 : List Int} {m m' : MachP} {a : HandP} (M : MOK m) (M' : MOK m') (H : HOK m a) (H' : HOK m' a) (O1 : Order o1 m.rods.toNat) (O2 : Order o2 m.levers.toNat) (er : m'.rods = m.rods) (el : m'.levers = m.levers) (et : m'.travel = m.travel)
    (ht : ∀ i : Nat, i < m.rods.toNat → turnF m' a m.travel (ordN o1 i : Nat) = turnF m a m.travel i) (hl : ∀ i : Nat, i < m.levers.toNat → liftF m' a m.travel (ordN o2 i : Nat) = liftF m a m.travel i)
    (hw : ∀ i : Nat, i < m.levers.toNat → m'.weights.getD (ordN o2 i) 0 = m.weights.getD i 0) : forceV m' a = forceV m a := by
  rw [force_sum M H, force_sum M' H', er, el, et]
  congr 1
  · rw [← sumF_ord O1 (fun i => if 0 < turnF m' a m.travel i then (1 : Int) else 0)]
    refine sumF_congr fun i hi => ?_
    show (if 0 < turnF m' a m.travel (ordN o1 i : Nat) then (1 : Int) else 0) = _
    rw [ht i hi]
  · rw [← sumF_ord O2 (fun i => if 0 < liftF m' a m.travel i then m'.weights.getD i 0 else 0)]
    refine sumF_congr fun i hi => ?_
    show (if 0 < liftF m' a m.travel (ordN o2 i : Nat) then m'.weights.getD (ordN o2 i) 0 else 0) = _
    rw [hl i hi, hw i hi]
/-- The machine under other numbers. -/
structure Renm (o1 o2 o3 : List Int) (m : MachP) (bs : List Int) (qs : List PinP) (ls : List LinkP) (ws : List Int) : Prop where
  bl : bs.length = m.buttons.length
  b : ∀ k (h : k < m.buttons.length), bs[k]? = some (ordF o1 m.buttons[k])
  ql : qs.length = m.pins.length
  q : ∀ k, k < m.pins.length → qs[k]? = some (renP (ordF o1) (ordF o2) (m.pins.getD (ordN o3 k) ⟨0, 0, 0⟩))
  ll : ls.length = m.links.length
  l : ∀ k (h : k < m.links.length), ls[k]? = some (renL (ordF o1) m.links[k])
  wl : ws.length = m.weights.length
  w : ∀ k (h : k < m.weights.length), ws[ordN o2 k]? = some m.weights[k]
theorem ordF_ordN {o : List Int} {n k : Nat} (O : Order o n) (hk : k < n) : ordF o (k : Int) = ((ordN o k : Nat) : Int) := by
  have := (O.ordN hk).1
  unfold ordF
  rw [Int.toNat_natCast, List.getD_eq_getElem?_getD, this]
  rfl
section
variable {o1 o2 o3 : List Int} {m : MachP} {bs : List Int} {qs : List PinP} {ls : List LinkP} {ws : List Int} (M : MOK m) (O1 : Order o1 m.rods.toNat) (O2 : Order o2 m.levers.toNat) (O3 : Order o3 m.pins.length) (Rn : Renm o1 o2 o3 m bs qs ls ws)
include M O1 O2 O3 Rn
theorem renm_inv1 : Inv (ordF o1) (ordB o1) m.rods := by
  have := ord_inv O1
  rwa [Int.toNat_of_nonneg (by have := M.rods; omega)] at this
theorem renm_inv2 : Inv (ordF o2) (ordB o2) m.levers := by
  have := ord_inv O2
  rwa [Int.toNat_of_nonneg (by have := M.levers; omega)] at this
theorem renm_btn : bs = m.buttons.map (ordF o1) := by
  apply List.ext_getElem?
  intro k
  rw [List.getElem?_map]
  by_cases h : k < m.buttons.length
  · rw [Rn.b k h, List.getElem?_eq_getElem h]; rfl
  · rw [List.getElem?_eq_none (by rw [Rn.bl]; omega), List.getElem?_eq_none (by omega)]; rfl
theorem renm_links : ls = m.links.map (renL (ordF o1)) := by
  apply List.ext_getElem?
  intro k
  rw [List.getElem?_map]
  by_cases h : k < m.links.length
  · rw [Rn.l k h, List.getElem?_eq_getElem h]; rfl
  · rw [List.getElem?_eq_none (by rw [Rn.ll]; omega), List.getElem?_eq_none (by omega)]; rfl
theorem renm_pins (q : PinP) : q ∈ qs ↔ ∃ p ∈ m.pins, q = renP (ordF o1) (ordF o2) p := by
  constructor
  · intro h
    obtain ⟨k, hk⟩ := List.mem_iff_getElem?.1 h
    have hl : k < m.pins.length := by have := (List.getElem?_eq_some_iff.1 hk).1; rw [Rn.ql] at this; exact this
    rw [Rn.q k hl] at hk
    have h2 := (O3.ordN hl).2
    refine ⟨m.pins[ordN o3 k], List.getElem_mem h2, ?_⟩
    cases hk
    rw [List.getD_eq_getElem?_getD, List.getElem?_eq_getElem h2]
    rfl
  · rintro ⟨p, hp, rfl⟩
    obtain ⟨j, hj, rfl⟩ := List.getElem_of_mem hp
    obtain ⟨k, hk, e⟩ := inj_surj m.pins.length (ordN o3) (fun i hi => (O3.ordN hi).2) (fun i k hi hk => O3.ordN_inj hi hk) j hj
    have := Rn.q k hk
    rw [e, List.getD_eq_getElem?_getD, List.getElem?_eq_getElem hj] at this
    exact List.mem_of_getElem? this
theorem renm_mok : MOK { m with buttons := bs, pins := qs, links := ls, weights := ws } := by
  have I1 := renm_inv1 M O1 O2 O3 Rn
  have I2 := renm_inv2 M O1 O2 O3 Rn
  refine ⟨M.rods, M.levers, M.regs, M.travel, M.opn, by show bs.length ≤ 4; rw [Rn.bl]; exact M.bl, fun b hb => ?_, by show qs.length ≤ 8; rw [Rn.ql]; exact M.pl, fun p hp => ?_, by show ls.length ≤ 4; rw [Rn.ll]; exact M.ll, fun l hl => ?_, by show (ws.length : Int) = m.levers; rw [Rn.wl]; exact M.wl, fun w hw => ?_⟩
  · have hb' : b ∈ bs := hb
    rw [renm_btn M O1 O2 O3 Rn] at hb'
    obtain ⟨x, hx, rfl⟩ := List.mem_map.1 hb'
    have := M.btn x hx
    exact I1.sb x this.1 this.2
  · obtain ⟨x, hx, rfl⟩ := (renm_pins M O1 O2 O3 Rn p).1 hp
    obtain ⟨a, b, c⟩ := M.pin x hx
    exact ⟨I1.sb _ a.1 a.2, I2.sb _ b.1 b.2, c⟩
  · have hl' : l ∈ ls := hl
    rw [renm_links M O1 O2 O3 Rn] at hl'
    obtain ⟨x, hx, rfl⟩ := List.mem_map.1 hl'
    obtain ⟨a, b, c, d, e⟩ := M.link x hx
    refine ⟨I1.sb _ a.1 a.2, I1.sb _ b.1 b.2, fun h => c ?_, d, e⟩
    have h' : ordF o1 x.frm = ordF o1 x.to := h
    rw [← I1.ts x.frm a.1 a.2, h', I1.ts x.to b.1 b.2]
  · have hw' : w ∈ ws := hw
    obtain ⟨j, hj⟩ := List.mem_iff_getElem?.1 hw'
    have hjl := (List.getElem?_eq_some_iff.1 hj).1
    rw [Rn.wl] at hjl
    have e9 : m.levers.toNat = m.weights.length := by have := M.wl; omega
    rw [e9] at O2
    obtain ⟨k, hk, e⟩ := inj_surj m.weights.length (ordN o2) (fun i hi => (O2.ordN hi).2) (fun i k hi hk => O2.ordN_inj hi hk) j hjl
    have := Rn.w k hk
    rw [e, hj] at this
    cases this
    exact M.wt _ (List.getElem_mem hk)
theorem renm_hok {a : HandP} (H : HOK m a) : HOK { m with buttons := bs, pins := qs, links := ls, weights := ws } a := ⟨by show SetOK a.buttons bs.length; rw [Rn.bl]; exact H.b, H.o⟩
theorem renm_turn {a : HandP} (H : HOK m a) {r : Nat} (hr : (r : Int) < m.rods) : turnF { m with buttons := bs, pins := qs, links := ls, weights := ws } a m.travel (ordN o1 r : Nat) = turnF m a m.travel r := by
  have I1 := renm_inv1 M O1 O2 O3 Rn
  have tr := M.travel
  have M' := renm_mok M O1 O2 O3 Rn
  have := ren_turn (m := m) (m' := { m with buttons := bs, pins := qs, links := ls, weights := ws }) M M' (fit_of M H) (fit_of M' (renm_hok M O1 O2 O3 Rn H)) I1 ⟨rfl, I1.sb, renm_btn M O1 O2 O3 Rn, renm_links M O1 O2 O3 Rn⟩ (by omega : 0 ≤ m.travel) (by omega : (0 : Int) ≤ r) hr
  rwa [ordF_ordN O1 (by omega)] at this
theorem renm_lift {a : HandP} (H : HOK m a) {v : Nat} (hv : (v : Int) < m.levers) : liftF { m with buttons := bs, pins := qs, links := ls, weights := ws } a m.travel (ordN o2 v : Nat) = liftF m a m.travel v := by
  have I1 := renm_inv1 M O1 O2 O3 Rn
  have I2 := renm_inv2 M O1 O2 O3 Rn
  have tr := M.travel
  have M' := renm_mok M O1 O2 O3 Rn
  have := ren_lift (m := m) (m' := { m with buttons := bs, pins := qs, links := ls, weights := ws }) M M' (fit_of M H) (fit_of M' (renm_hok M O1 O2 O3 Rn H)) I1 I2 ⟨rfl, I1.sb, renm_btn M O1 O2 O3 Rn, renm_links M O1 O2 O3 Rn⟩ rfl (renm_pins M O1 O2 O3 Rn) (by omega : 0 ≤ m.travel) (by omega : (0 : Int) ≤ v) hv
  rwa [ordF_ordN O2 (by omega)] at this
theorem renm_force {a : HandP} (H : HOK m a) : forceV { m with buttons := bs, pins := qs, links := ls, weights := ws } a = forceV m a := by
  have M' := renm_mok M O1 O2 O3 Rn
  refine ren_force (m' := { m with buttons := bs, pins := qs, links := ls, weights := ws }) M M' H (renm_hok M O1 O2 O3 Rn H) O1 O2 rfl rfl rfl (fun i hi => renm_turn M O1 O2 O3 Rn H (by omega)) (fun i hi => renm_lift M O1 O2 O3 Rn H (by omega)) (fun i hi => ?_)
  have e9 : m.levers.toNat = m.weights.length := by have := M.wl; omega
  have hw := Rn.w i (by omega)
  show ws.getD (ordN o2 i) 0 = _
  rw [List.getD_eq_getElem?_getD, hw, List.getD_eq_getElem?_getD, List.getElem?_eq_getElem (by omega)]
end
end
end Go.Proofs.Ythphpbdmbmiaiaa
/- Walks: turns, step by step. Conditions: as each theorem states. -/
namespace Go.Proofs.Ythphpbdmbmiaiaa
open Go Go.HL Go.Proofs Go.Wx Go.Rd
section
variable [Lvl]
set_option maxRecDepth 100000
theorem turns_len {m : MachP} {a : HandP} (M : MOK m) (H : HOK m a) : (turnsL m a).length = m.rods.toNat := by
  have := M.rods
  rw [turnsL, if_pos (hand_of M H), List.length_take, turned_len]
  omega
theorem turns_at {m : MachP} {a : HandP} (M : MOK m) (H : HOK m a) {k : Nat} (hk : k < (turnsL m a).length) : (turnsL m a)[k] = turnF m a m.travel k := by
  have h6 := turned_len m a m.travel
  have e : turnsL m a = (turnedM m a m.travel).take m.rods.toNat := by rw [turnsL, if_pos (hand_of M H)]
  have hl := turns_len M H
  have hr := M.rods
  unfold turnF
  rw [Int.toNat_natCast, List.getD_eq_getElem?_getD, List.getElem?_eq_getElem (by omega)]
  simp only [e, List.getElem_take]
  rfl
end
end Go.Proofs.Ythphpbdmbmiaiaa
/- Walks: other numbers, another order: the law. Conditions: as each theorem states. -/
namespace Go.Proofs.Ythphpbdmbmiaiaa
open Go Go.HL Go.Proofs Go.Wx Go.Rd
section
variable [Lvl]
set_option maxRecDepth 100000
theorem set_next {α : Type} {l : List α} {i : Nat} {x : α} {f : Nat → Option α} (hi : i < l.length) (h : ∀ k, k < i → l[k]? = f k) (hx : some x = f i) : ∀ k, k < i + 1 → (l.set i x)[k]? = f k := by
  intro k hk
  rw [List.getElem?_set]
  by_cases e : i = k
  · subst e; rw [if_pos rfl, if_pos hi]; exact hx
  · rw [if_neg e]; exact h k (by omega)
theorem intE1 (x : Int) : (intC x).length = 1 := rfl
theorem pinE3 (x : PinP) : (pinC x).length = 3 := rfl
theorem linkE4 (x : LinkP) : (linkC x).length = 4 := rfl
set_option maxHeartbeats 16000000 in
theorem renamed_runs (w : World) (l : List Int) (hl : l.length < 2 ^ 63) (A : Option Addr) (c : Nat) (R : Row (absH w.heap) 1 intC A l) : RunsTrue Try.prog 5 #[.slice A l.length c] w := by
  letI : Lvl := ⟨true, none, none⟩
  refine runs_body Try.func5 rfl Try.ntmps5 rfl Try.results5 rfl (by kernel_rfl) fun h hh => ?_
  rw [← hh] at R
  refine xp_seq ?_
  refine xp_region rfl ?_
  refine op_pure (pv_assign (v := .bool _) rfl) ?_
  refine xp_seq ?_
  refine xp_region rfl ?_
  refine op_pure (pv_move (v := .slice _ _ _) rfl) ?_
  refine op_fnMM [] [] [] rfl rfl rfl ((NewPot_ok l hl A c h R)) ?_
  rintro _ h1 _ E1 ⟨b, x, rfl, rfl⟩
  refine wp_norm [_] rfl ?_
  refine op_pure (pv_assign (v := .pointer _) rfl) ?_
  refine xp_seq ?_
  refine xp_region rfl ?_
  refine op_pure (pv_move (v := .pointer _) rfl) ?_
  refine op_fnMM [] [_] [] (vs := _) rfl rfl rfl ((MachineOf_ok b x 6 8 4 (by omega) (by omega) (by omega) h1)) ?_
  rintro _ h2 _ E2 ⟨x2, m, rfl, VM, Md⟩
  refine wp_norm [_] rfl ?_
  obtain ⟨AB, AQ, AL, AW, cB, cQ, cL, cW, rfl, RM⟩ := VM.open
  have M := Md.ok
  have mbl := Md.bl
  have mpl := Md.pl
  have mll := Md.ll
  have mrd := M.rods
  have mlv := M.levers
  have mrg := M.regs
  have mtr := M.travel
  have mwl := M.wl
  refine op_alloc (cs := [_, _, _, _, _, _, _, _, _]) rfl rfl fun b4 hb4 => ?_
  refine wp_norm [_, _] rfl ?_
  refine op_storeP 1 (v := .agg #[.int .i64 _, .int .i64 _, .int .i64 _, .int .i64 _, .int .i64 _, .slice _ _ _, .slice _ _ _, .slice _ _ _, .slice _ _ _]) (vs := [_, _, _, _, _, _, _, _, _]) (c' := [_, _, _, _, _, _, _, _, _]) rfl rfl rfl rfl rfl rfl rfl rfl rfl ?_
  refine wp_norm [_, _] rfl ?_
  refine xp_seq ?_
  refine xp_region rfl ?_
  refine op_pure (pv_move (v := .pointer _) rfl) ?_
  refine op_loadPA 1 (vs := [.int .i64 _, .int .i64 _, .int .i64 _, .int .i64 _, .int .i64 _, .slice _ _ _, .slice _ _ _, .slice _ _ _, .slice _ _ _]) rfl rfl rfl rfl rfl ?_
  refine op_fnMM [] [_] [_] (vs := _) rfl rfl rfl ((HandOf_ok b x2 m (by omega) (by omega) AB AQ AL AW cB cQ cL cW h2)) ?_
  rintro _ h3 _ E3 ⟨x3, a, rfl, VH, H⟩
  refine wp_norm [_, _] rfl ?_
  obtain ⟨HA, OA, cH, cO, rfl, RH⟩ := VH.open
  refine op_alloc (cs := [_, _]) rfl rfl fun b5 hb5 => ?_
  refine wp_norm [_, _, _] rfl ?_
  refine op_storeP 2 (v := .agg #[.slice _ _ _, .slice _ _ _]) (vs := [_, _]) (c' := [_, _]) rfl rfl rfl rfl rfl rfl rfl rfl rfl ?_
  refine wp_norm [_, _, _] rfl ?_
  refine xp_seq ?_
  refine xp_dw [true, false, false] rfl rfl rfl ?_
  refine dw_pure (i := 0) rfl (by decide +kernel) (pv_move (v := .pointer _) rfl) ?_
  refine dw_pure (i := 1) rfl (by decide +kernel) (pv_fieldAddr rfl rfl rfl rfl 0 rfl) ?_
  refine dw_load (i := 2) rfl (by decide +kernel) ?_
  refine op_loadP 1 (v := .int .i64 _) rfl rfl rfl rfl ?_
  refine dw_pure (i := 4) rfl (by decide +kernel) (pv_move (v := .pointer _) rfl) ?_
  refine dw_pure (i := 5) rfl (by decide +kernel) (pv_fieldAddr rfl rfl rfl rfl 1 rfl) ?_
  refine dw_load (i := 6) rfl (by decide +kernel) ?_
  refine op_loadP 1 (v := .int .i64 _) rfl rfl rfl rfl ?_
  refine dw_pure (i := 8) rfl (by decide +kernel) (pv_move (v := .pointer _) rfl) ?_
  refine dw_pure (i := 9) rfl (by decide +kernel) (pv_fieldAddr rfl rfl rfl rfl 6 rfl) ?_
  refine dw_load (i := 10) rfl (by decide +kernel) ?_
  refine op_loadP 1 (v := .slice _ _ _) rfl rfl rfl rfl ?_
  refine dw_pure (i := 11) rfl (by decide +kernel) (pv_len rfl rfl) ?_
  refine dw_eff (i := 3) rfl (by decide +kernel) ?_
  refine op_fnMM [] [_] [_, _] (vs := [.pointer _, .int .i64 _]) rfl rfl rfl (fnM_args (by simp only [List.cons.injEq, Value.int.injEq, true_and, and_true]; omega) (Mix_ok b x3 m.rods.toNat (by omega) h3)) ?_
  rintro _ h4 _ E4 ⟨x4, o1, rfl, ⟨A1, c1, rfl, S1⟩, O1⟩
  refine ⟨ext_wlm E4 _, ?_⟩
  refine dw_norm [_, _, _] rfl ?_
  refine dw_eff (i := 7) rfl (by decide +kernel) ?_
  refine op_fnMM [] [_] [_, _] (vs := [.pointer _, .int .i64 _]) rfl rfl rfl (fnM_args (by simp only [List.cons.injEq, Value.int.injEq, true_and, and_true]; omega) (Mix_ok b x4 m.levers.toNat (by omega) h4)) ?_
  rintro _ h5 _ E5 ⟨x5, o2, rfl, ⟨A2, c2, rfl, S2⟩, O2⟩
  refine ⟨ext_wlm E5 _, ?_⟩
  refine dw_norm [_, _, _] rfl ?_
  refine dw_last (i := 12) rfl (by decide +kernel) (by decide +kernel) ?_
  refine op_fnMM [] [_] [_, _] (vs := [.pointer _, .int .i64 _]) rfl rfl rfl ((Mix_ok b x5 m.pins.length (by omega) h5)) ?_
  rintro _ h6 _ E6 ⟨x6, o3, rfl, ⟨A3, c3, rfl, S3⟩, O3⟩
  refine dw_norm [_, _, _] rfl ?_
  have ol1 := O1.len
  have ol2 := O2.len
  have ol3 := O3.len
  refine dw_pure (i := 13) rfl (by decide +kernel) (pv_assign (v := .slice _ _ _) rfl) ?_
  refine dw_pure (i := 14) rfl (by decide +kernel) (pv_assign (v := .slice _ _ _) rfl) ?_
  refine dw_pure (i := 15) rfl (by decide +kernel) (pv_assign (v := .slice _ _ _) rfl) ?_
  refine dw_end rfl ?_
  refine xp_seq ?_
  refine xp_region rfl ?_
  refine op_loadPA 1 (vs := [.int .i64 _, .int .i64 _, .int .i64 _, .int .i64 _, .int .i64 _, .slice _ _ _, .slice _ _ _, .slice _ _ _, .slice _ _ _]) rfl rfl rfl rfl rfl ?_
  refine op_fnMM [_, _, _] [] [] rfl rfl rfl (CopyMachine_okM m AB AQ AL AW cB cQ cL cW h6 (RM.ext (Ext.trans (Ext.trans (Ext.trans E3 E4) E5) E6)) (by omega) (by omega) (by omega) (by omega)) ?_
  rintro _ h7 _ E7 ⟨a1, a4, a2, a3, rfl, rfl, ha1, ha2, ha3, ha4⟩
  refine wp_norm [_, _, _, _, _, _, _] rfl ?_
  refine op_alloc (cs := [_, _, _, _, _, _, _, _, _]) rfl rfl fun b9 hb9 => ?_
  refine wp_norm [_, _, _, _, _, _, _, _] rfl ?_
  refine op_storeP 7 (v := .agg #[.int .i64 _, .int .i64 _, .int .i64 _, .int .i64 _, .int .i64 _, .slice _ _ _, .slice _ _ _, .slice _ _ _, .slice _ _ _]) (vs := [_, _, _, _, _, _, _, _, _]) (c' := [_, _, _, _, _, _, _, _, _]) rfl rfl rfl rfl rfl rfl rfl rfl rfl ?_
  refine wp_norm [_, _, _, _, _, _, _, _] rfl ?_
  refine xp_seq ?_
  refine xp_seq ?_
  refine xp_region rfl ?_
  refine op_pure (pv_assign (v := .int .i64 _) rfl) ?_
  refine xp_block ?_
  obtain ⟨p2, B2, n2, k2⟩ := a2
  obtain rfl : n2 = m.pins.length := by have := AccR.len ha2; rw [flat_len (m := 3) (fun _ _ => rfl)] at this; dsimp only at this; omega
  dsimp only at *
  refine xp_loopL [10, 11, 51, 52, 53, 54, 55, 56, 57, 58, 59, 60, 61, 62, 63, 64, 65, 66, 67, 68, 69, 70, 71, 72, 73, 74, 75, 76, 77, 78, 79, 80, 81] 8 (α := Nat × Option (Nat × Obj) × List PinP) (fun ⟨i, pp, qs⟩ => [(10, .int .i64 i)]) (fun ⟨i, pp, qs⟩ L => L.set 5 (pp)) (fun ⟨i, pp, qs⟩ h_i => (i ≤ m.pins.length ∧ qs.length = m.pins.length) ∧ (∀ k, k < i → qs[k]? = some (renP (ordF o1) (ordF o2) (m.pins.getD (ordN o3 k) ⟨0, 0, 0⟩))) ∧ AccR 36 3 (qs.flatMap pinC) ⟨pp, B2, m.pins.length, k2⟩) (fun ⟨i, pp, qs⟩ => m.pins.length - i) ((0, p2, m.pins)) ⟨rfl, trivial⟩ (rfl) (⟨⟨Nat.zero_le _, rfl⟩, fun k hk => by omega, ha2⟩) ?_
  rintro ⟨i, pp, qs⟩ T1 h_i E_i J_i
  refine goes_norm [_, _, _, _, _, _, _, _] rfl ?_
  obtain ⟨⟨K1, K2⟩, K3, K4⟩ := J_i
  refine xp_seq ?_
  refine xp_seq ?_
  refine xp_region rfl ?_
  refine op_pure (pv_move (v := .int .i64 _) rfl) ?_
  refine op_pure (pv_move (v := .slice _ _ _) rfl) ?_
  refine op_pure (pv_len rfl rfl) ?_
  refine op_pure (pv_of (v := .bool _) rfl) ?_
  refine xp_cond rfl (fun hi => ?_) (fun hi => ?_)
  · skip
    have hil : i < m.pins.length := by have := of_decide_eq_true hi; omega
    have hio : i < o3.length := by omega
    have hoi := O3.ordN hil
    have ho3 : o3[i] = ((ordN o3 i : Nat) : Int) := by have := hoi.1; rw [List.getElem?_eq_getElem hio] at this; simpa using this
    have hg3 : m.pins.getD (ordN o3 i) ⟨0, 0, 0⟩ = m.pins[ordN o3 i]'hoi.2 := by rw [List.getD_eq_getElem?_getD, List.getElem?_eq_getElem hoi.2]; rfl
    obtain ⟨pk, hpk⟩ : ∃ pk, pk = m.pins[ordN o3 i]'hoi.2 := ⟨_, rfl⟩
    have mp := M.pin _ (List.getElem_mem hoi.2)
    rw [← hpk] at mp hg3
    obtain ⟨⟨m1, m2⟩, ⟨m3, m4⟩, m5⟩ := mp
    have hr1 : pk.rod.toNat < o1.length := by omega
    have hr2 : pk.lever.toNat < o2.length := by omega
    have hq1 : o1[pk.rod.toNat] = ordF o1 pk.rod := (getD_get hr1).symm
    have hq2 : o2[pk.lever.toNat] = ordF o2 pk.lever := (getD_get hr2).symm
    obtain ⟨g3, f3, hA3, hc3⟩ := (S3.ext (Ext.trans E7 E_i)).at (by omega) hio
    obtain ⟨gq, fq, hAq, hcq⟩ := (RM.q.ext (Ext.trans (Ext.trans (Ext.trans (Ext.trans (Ext.trans E3 E4) E5) E6) E7) E_i)).at (by omega) hoi.2
    obtain ⟨g1, f1, hA1, hc1⟩ := (S1.ext (Ext.trans (Ext.trans (Ext.trans E5 E6) E7) E_i)).at (by omega) hr1
    obtain ⟨g2, f2, hA2, hc2⟩ := (S2.ext (Ext.trans (Ext.trans E6 E7) E_i)).at (by omega) hr2
    rw [ho3] at hc3
    rw [← hpk] at hcq
    rw [hq1] at hc1
    rw [hq2] at hc2
    have hfl : (qs.flatMap pinC).length = qs.length * 3 := flat_len (fun _ _ => rfl)
    obtain ⟨gb, len, cap, junk, he, hlen, put⟩ := AccR.parts K4 (by intro e; rw [e] at hfl; simp at hfl; omega)
    injection he with q1 q2 q3 q4
    subst q1
    rw [← q2, ← q3, ← q4] at put
    have eN : some (renP (ordF o1) (ordF o2) pk) = some (renP (ordF o1) (ordF o2) (m.pins.getD (ordN o3 i) ⟨0, 0, 0⟩)) := by rw [hg3]
    refine xp_skip ?_
    refine xp_seq ?_
    refine xp_block ?_
    refine xp_seq ?_
    refine xp_dw [] rfl rfl rfl ?_
    refine dw_pure (i := 0) rfl (by decide +kernel) (pv_fieldAddr rfl rfl rfl rfl 6 rfl) ?_
    refine dw_load (i := 1) rfl (by decide +kernel) ?_
    refine op_loadP 1 (v := .slice _ _ _) rfl rfl rfl rfl ?_
    refine dw_pure (i := 2) rfl (by decide +kernel) (pv_move (v := .slice _ _ _) rfl) ?_
    refine dw_pure (i := 3) rfl (by decide +kernel) (pv_move (v := .int .i64 _) rfl) ?_
    refine dw_pure (i := 4) rfl (by decide +kernel) (pv_indexE rfl hA3 rfl rfl rfl (by omega) (by omega)) ?_
    refine dw_load (i := 5) rfl (by decide +kernel) ?_
    refine op_load (v := .int .i64 _) rfl rfl ((hc3) 0 _ rfl) ?_
    refine dw_pure (i := 6) rfl (by decide +kernel) (pv_indexE (m := 3) rfl hAq rfl rfl rfl (by omega) (by omega)) ?_
    refine dw_load (i := 7) rfl (by decide +kernel) ?_
    refine op_loadA rfl rfl rfl rfl (hcq) ?_
    refine dw_eff (i := 8) rfl (by decide +kernel) ?_
    refine op_alloc (cs := [_, _, _]) rfl rfl fun b11 hb11 => ?_
    refine ⟨ext_new hb11 _, ?_⟩
    refine dw_norm [_, _, _, _, _, _, _, _, _] rfl ?_
    refine dw_last (i := 9) rfl (by decide +kernel) (by decide +kernel) ?_
    refine op_storeP 8 (v := .agg #[.int .i64 _, .int .i64 _, .int .i64 _]) (vs := [_, _, _]) (c' := [_, _, _]) rfl rfl rfl rfl rfl rfl rfl rfl rfl ?_
    refine dw_norm [_, _, _, _, _, _, _, _, _] rfl ?_
    refine dw_end rfl ?_
    refine xp_dw [] rfl rfl rfl ?_
    refine dw_pure (i := 0) rfl (by decide +kernel) (pv_fieldAddr rfl rfl rfl rfl 6 rfl) ?_
    refine dw_load (i := 1) rfl (by decide +kernel) ?_
    refine op_loadP 7 (v := .slice _ _ _) rfl rfl rfl rfl ?_
    refine dw_pure (i := 2) rfl (by decide +kernel) (pv_move (v := .int .i64 _) rfl) ?_
    refine dw_pure (i := 3) rfl (by decide +kernel) (pv_move (v := .slice _ _ _) rfl) ?_
    refine dw_pure (i := 4) rfl (by decide +kernel) (pv_fieldAddr rfl rfl rfl rfl 0 rfl) ?_
    refine dw_load (i := 5) rfl (by decide +kernel) ?_
    refine op_loadP 8 (v := .int .i64 _) rfl rfl rfl rfl ?_
    refine dw_pure (i := 6) rfl (by decide +kernel) (pv_indexE rfl hA1 rfl rfl rfl (by omega) (by omega)) ?_
    refine dw_load (i := 7) rfl (by decide +kernel) ?_
    refine op_load (v := .int .i64 _) rfl rfl ((hc1) 0 _ rfl) ?_
    refine dw_pure (i := 8) rfl (by decide +kernel) (pv_move (v := .slice _ _ _) rfl) ?_
    refine dw_pure (i := 9) rfl (by decide +kernel) (pv_fieldAddr rfl rfl rfl rfl 1 rfl) ?_
    refine dw_load (i := 10) rfl (by decide +kernel) ?_
    refine op_loadP 8 (v := .int .i64 _) rfl rfl rfl rfl ?_
    refine dw_pure (i := 11) rfl (by decide +kernel) (pv_indexE rfl hA2 rfl rfl rfl (by omega) (by omega)) ?_
    refine dw_load (i := 12) rfl (by decide +kernel) ?_
    refine op_load (v := .int .i64 _) rfl rfl ((hc2) 0 _ rfl) ?_
    refine dw_pure (i := 13) rfl (by decide +kernel) (pv_fieldAddr rfl rfl rfl rfl 2 rfl) ?_
    refine dw_load (i := 14) rfl (by decide +kernel) ?_
    refine op_loadP 8 (v := .int .i64 _) rfl rfl rfl rfl ?_
    refine dw_pure (i := 15) rfl (by decide +kernel) (pv_build (zc := [_, _, _]) (vs := [(0, .int .i64 _), (1, .int .i64 _), (2, .int .i64 _)]) (cs := [_, _, _]) rfl rfl rfl rfl rfl rfl) ?_
    refine dw_pure (i := 16) rfl (by decide +kernel) (pv_indexE (m := 3) rfl q2 rfl rfl rfl (by omega) (by omega)) ?_
    refine dw_last (i := 17) rfl (by decide +kernel) (by decide +kernel) ?_
    refine op_storeP 5 (m := 3) (off := 0 + (i : Int).toNat * 3) (v := .agg #[.int .i64 _, .int .i64 _, .int .i64 _]) (vs := [.int .i64 _, .int .i64 _, .int .i64 _]) (c' := (qs.set i (renP (ordF o1) (ordF o2) pk)).flatMap pinC ++ junk) rfl rfl rfl rfl rfl rfl (Nat.ble_eq_true_of_le (by rw [List.length_append, hfl]; omega)) rfl (by rw [show 0 + (i : Int).toNat * 3 = i * 3 + 0 by omega]; exact flat_wr pinE3 (by omega) (by simp) rfl junk) ?_
    refine dw_norm [_, _, _, _, _, _, _, _, _] rfl ?_
    refine dw_end rfl ?_
    refine xp_region rfl ?_
    refine op_pure (pv_move (v := .int .i64 _) rfl) ?_
    refine op_pure (pv_arith rfl (by omega)) ?_
    refine op_pure (pv_assign (v := .int .i64 _) rfl) ?_
    refine ⟨(i + 1, some (gb, .cells ((qs.set i (renP (ordF o1) (ordF o2) pk)).flatMap pinC ++ junk).toArray 36 (0, 0)), qs.set i (renP (ordF o1) (ordF o2) pk)), ⟨rfl, trivial⟩, rfl, rfl, E_i, fun h3 E3 => ⟨⟨hil, by rw [List.length_set]; exact K2⟩, set_next (by omega) K3 eN, put _ (by rw [hfl, flat_len (m := 3) (fun _ _ => rfl), List.length_set])⟩, by first | omega | (dsimp only; omega), ?_⟩
    repeat (first | exact off_base _ _ _ | refine off_upd (by decide) ?_ | refine off_updL rfl ?_ | refine off_mix rfl ?_)
  · skip
    have hie : i = m.pins.length := by have := of_decide_eq_false hi; omega
    subst hie
    obtain ⟨p3, B3, n3, k3⟩ := a3
    obtain rfl : n3 = m.links.length := by have := AccR.len ha3; rw [flat_len (m := 4) (fun _ _ => rfl)] at this; dsimp only at this; omega
    dsimp only at *
    refine xp_exit ?_
    refine xp_seq ?_
    refine xp_seq ?_
    refine xp_region rfl ?_
    refine op_pure (pv_assign (v := .int .i64 _) rfl) ?_
    refine xp_block ?_
    refine xp_loopL [12, 82, 83, 84, 85, 86, 87, 88, 89, 90, 91, 92, 93, 94, 95, 96, 97, 98, 99, 100, 101, 102, 103, 104, 105, 106, 107, 108, 109, 110, 111, 112, 113, 114, 115, 116] 8 (α := Nat × Option (Nat × Obj) × List LinkP) (fun ⟨j, pl, ls⟩ => [(12, .int .i64 j)]) (fun ⟨j, pl, ls⟩ L => L.set 6 (pl)) (fun ⟨j, pl, ls⟩ h_j => (j ≤ m.links.length ∧ ls.length = m.links.length) ∧ (∀ k, k < j → ls[k]? = (m.links[k]?).map (renL (ordF o1))) ∧ (∀ k, j ≤ k → ls[k]? = m.links[k]?) ∧ AccR 39 4 (ls.flatMap linkC) ⟨pl, B3, m.links.length, k3⟩) (fun ⟨j, pl, ls⟩ => m.links.length - j) ((0, p3, m.links)) ⟨rfl, trivial⟩ (rfl) (⟨⟨Nat.zero_le _, rfl⟩, fun k hk => by omega, fun _ _ => rfl, ha3⟩) ?_
    rintro ⟨j, pl, ls⟩ T2 h_j E_j J_j
    refine goes_norm [_, _, _, _, _, _, _, _] rfl ?_
    obtain ⟨⟨L1, L2⟩, L3, L5, L4⟩ := J_j
    refine xp_seq ?_
    refine xp_seq ?_
    refine xp_region rfl ?_
    refine op_pure (pv_move (v := .int .i64 _) rfl) ?_
    refine op_pure (pv_fieldAddr rfl rfl rfl rfl 7 rfl) ?_
    refine op_loadP 7 (v := .slice _ _ _) rfl rfl rfl rfl ?_
    refine op_pure (pv_len rfl rfl) ?_
    refine op_pure (pv_of (v := .bool _) rfl) ?_
    refine xp_cond rfl (fun hj => ?_) (fun hj => ?_)
    · skip
      have hjl : j < m.links.length := ltI hj
      have hjs : j < ls.length := by omega
      obtain ⟨lk, hlk⟩ : ∃ lk, lk = m.links[j] := ⟨_, rfl⟩
      have hls : ls[j] = lk := by have := L5 j (Nat.le_refl _); rw [List.getElem?_eq_getElem hjs, List.getElem?_eq_getElem hjl] at this; rw [hlk]; simpa using this
      have mk := M.link _ (List.getElem_mem hjl)
      rw [← hlk] at mk
      obtain ⟨⟨m1, m2⟩, ⟨m3, m4⟩, _⟩ := mk
      have hr1 : lk.frm.toNat < o1.length := by omega
      have hr2 : lk.to.toNat < o1.length := by omega
      have hq1 : o1[lk.frm.toNat] = ordF o1 lk.frm := (getD_get hr1).symm
      have hq2 : o1[lk.to.toNat] = ordF o1 lk.to := (getD_get hr2).symm
      obtain ⟨gq, fq, hAq, hcq⟩ := (RM.l.ext (Ext.trans (Ext.trans (Ext.trans (Ext.trans (Ext.trans (Ext.trans E3 E4) E5) E6) E7) E_i) E_j)).at (by omega) hjl
      obtain ⟨g1, f1, hA1, hc1⟩ := (S1.ext (Ext.trans (Ext.trans (Ext.trans (Ext.trans E5 E6) E7) E_i) E_j)).at (by omega) hr1
      obtain ⟨g2, f2, hA2, hc2⟩ := (S1.ext (Ext.trans (Ext.trans (Ext.trans (Ext.trans E5 E6) E7) E_i) E_j)).at (by omega) hr2
      rw [← hlk] at hcq
      rw [hq1] at hc1
      rw [hq2] at hc2
      have hfl : (ls.flatMap linkC).length = ls.length * 4 := flat_len (fun _ _ => rfl)
      obtain ⟨gb, len, cap, junk, he, hlen, put⟩ := AccR.parts L4 (by intro e; rw [e] at hfl; simp at hfl; omega)
      injection he with q1 q2 q3 q4
      subst q1
      rw [← q2, ← q3, ← q4] at put
      have e1 : (ls.set j ⟨ordF o1 lk.frm, lk.to, lk.reg, lk.lag⟩).set j (renL (ordF o1) lk) = ls.set j (renL (ordF o1) lk) := List.set_set ..
      refine xp_skip ?_
      refine xp_seq ?_
      refine xp_block ?_
      refine xp_dw [false, false, false, false, false, false, true, false] rfl rfl rfl ?_
      refine dw_pure (i := 0) rfl (by decide +kernel) (pv_fieldAddr rfl rfl rfl rfl 7 rfl) ?_
      refine dw_load (i := 1) rfl (by decide +kernel) ?_
      refine op_loadP 7 (v := .slice _ _ _) rfl rfl rfl rfl ?_
      refine dw_pure (i := 2) rfl (by decide +kernel) (pv_move (v := .int .i64 _) rfl) ?_
      refine dw_pure (i := 3) rfl (by decide +kernel) (pv_fieldAddr rfl rfl rfl rfl 7 rfl) ?_
      refine dw_load (i := 4) rfl (by decide +kernel) ?_
      refine op_loadP 7 (v := .slice _ _ _) rfl rfl rfl rfl ?_
      refine dw_pure (i := 5) rfl (by decide +kernel) (pv_move (v := .int .i64 _) rfl) ?_
      refine dw_pure (i := 6) rfl (by decide +kernel) (pv_move (v := .slice _ _ _) rfl) ?_
      refine dw_pure (i := 7) rfl (by decide +kernel) (pv_fieldAddr rfl rfl rfl rfl 7 rfl) ?_
      refine dw_load (i := 8) rfl (by decide +kernel) ?_
      refine op_loadP 1 (v := .slice _ _ _) rfl rfl rfl rfl ?_
      refine dw_pure (i := 9) rfl (by decide +kernel) (pv_move (v := .int .i64 _) rfl) ?_
      refine dw_pure (i := 10) rfl (by decide +kernel) (pv_indexE (m := 4) rfl hAq rfl rfl rfl (by omega) (by omega)) ?_
      refine dw_pure (i := 11) rfl (by decide +kernel) (pv_fieldAddr rfl rfl rfl rfl _ rfl) ?_
      refine dw_load (i := 12) rfl (by decide +kernel) ?_
      refine op_load (v := .int .i64 _) rfl rfl (hcq 0 _ rfl) ?_
      refine dw_pure (i := 13) rfl (by decide +kernel) (pv_indexE rfl hA1 rfl rfl rfl (by omega) (by omega)) ?_
      refine dw_load (i := 14) rfl (by decide +kernel) ?_
      refine op_load (v := .int .i64 _) rfl rfl ((hc1) 0 _ rfl) ?_
      refine dw_pure (i := 15) rfl (by decide +kernel) (pv_move (v := .slice _ _ _) rfl) ?_
      refine dw_pure (i := 16) rfl (by decide +kernel) (pv_fieldAddr rfl rfl rfl rfl 7 rfl) ?_
      refine dw_load (i := 17) rfl (by decide +kernel) ?_
      refine op_loadP 1 (v := .slice _ _ _) rfl rfl rfl rfl ?_
      refine dw_pure (i := 18) rfl (by decide +kernel) (pv_move (v := .int .i64 _) rfl) ?_
      refine dw_pure (i := 19) rfl (by decide +kernel) (pv_indexE (m := 4) rfl hAq rfl rfl rfl (by omega) (by omega)) ?_
      refine dw_pure (i := 20) rfl (by decide +kernel) (pv_fieldAddr rfl rfl rfl rfl _ rfl) ?_
      refine dw_load (i := 21) rfl (by decide +kernel) ?_
      refine op_load (v := .int .i64 _) rfl rfl (hcq 1 _ rfl) ?_
      refine dw_pure (i := 22) rfl (by decide +kernel) (pv_indexE rfl hA2 rfl rfl rfl (by omega) (by omega)) ?_
      refine dw_load (i := 23) rfl (by decide +kernel) ?_
      refine op_load (v := .int .i64 _) rfl rfl ((hc2) 0 _ rfl) ?_
      refine dw_pure (i := 24) rfl (by decide +kernel) (pv_indexE (m := 4) rfl q2 rfl rfl rfl (by omega) (by omega)) ?_
      refine dw_pure (i := 25) rfl (by decide +kernel) (pv_fieldAddr rfl rfl rfl rfl _ rfl) ?_
      refine dw_eff (i := 26) rfl (by decide +kernel) ?_
      refine op_storeP 6 (m := 1) (off := 0 + (j : Int).toNat * 4 + 0) (v := .int .i64 _) (vs := [.int .i64 (ordF o1 lk.frm)]) (c' := (ls.set j ⟨ordF o1 lk.frm, lk.to, lk.reg, lk.lag⟩).flatMap linkC ++ junk) rfl rfl rfl rfl rfl rfl (Nat.ble_eq_true_of_le (by rw [List.length_append, hfl]; omega)) rfl (by rw [show 0 + (j : Int).toNat * 4 + 0 = j * 4 + 0 by omega]; exact flat_wr linkE4 hjs (by simp) (by rw [hls]; rfl) junk) ?_
      refine ⟨Ext.refl _, ?_⟩
      refine dw_norm [_, _, _, _, _, _, _, _] rfl ?_
      refine dw_pure (i := 27) rfl (by decide +kernel) (pv_indexE (m := 4) rfl q2 rfl rfl rfl (by omega) (by omega)) ?_
      refine dw_pure (i := 28) rfl (by decide +kernel) (pv_fieldAddr rfl rfl rfl rfl _ rfl) ?_
      refine dw_last (i := 29) rfl (by decide +kernel) (by decide +kernel) ?_
      refine op_storeP 6 (m := 1) (off := 0 + (j : Int).toNat * 4 + 1) (v := .int .i64 _) (vs := [.int .i64 (ordF o1 lk.to)]) (c' := ((ls.set j ⟨ordF o1 lk.frm, lk.to, lk.reg, lk.lag⟩).set j (renL (ordF o1) lk)).flatMap linkC ++ junk) rfl rfl rfl rfl rfl rfl (Nat.ble_eq_true_of_le (by rw [List.length_append, flat_len (m := 4) (fun _ _ => rfl), List.length_set]; omega)) rfl (by rw [show 0 + (j : Int).toNat * 4 + 1 = j * 4 + 1 by omega]; exact flat_wr linkE4 (by rw [List.length_set]; exact hjs) (by simp) (by rw [List.getElem_set_self]; rfl) junk) ?_
      refine dw_norm [_, _, _, _, _, _, _, _] rfl ?_
      rw [e1]
      refine dw_end rfl ?_
      refine xp_region rfl ?_
      refine op_pure (pv_move (v := .int .i64 _) rfl) ?_
      refine op_pure (pv_arith rfl (by omega)) ?_
      refine op_pure (pv_assign (v := .int .i64 _) rfl) ?_
      refine ⟨(j + 1, some (gb, .cells ((ls.set j (renL (ordF o1) lk)).flatMap linkC ++ junk).toArray 39 (0, 0)), ls.set j (renL (ordF o1) lk)), ⟨rfl, trivial⟩, rfl, rfl, E_j, fun h3 E3 => ⟨⟨hjl, by rw [List.length_set]; exact L2⟩, set_next hjs L3 (by rw [List.getElem?_eq_getElem hjl, hlk]; rfl), fun k hk => by rw [List.getElem?_set_ne (by omega)]; exact L5 k (by omega), put _ (by rw [hfl, flat_len (m := 4) (fun _ _ => rfl), List.length_set])⟩, by first | omega | (dsimp only; omega), ?_⟩
      repeat (first | exact off_base _ _ _ | refine off_upd (by decide) ?_ | refine off_updL rfl ?_ | refine off_mix rfl ?_)
    · skip
      have hje : j = m.links.length := by have := geI hj; omega
      subst hje
      obtain ⟨p1, B1, n1, k1⟩ := a1
      obtain rfl : n1 = m.buttons.length := by have := AccR.len ha1; rw [flat_len (m := 1) (fun _ _ => rfl)] at this; dsimp only at this; omega
      dsimp only at *
      refine xp_exit ?_
      refine xp_seq ?_
      refine xp_seq ?_
      refine xp_region rfl ?_
      refine op_pure (pv_assign (v := .int .i64 _) rfl) ?_
      refine xp_block ?_
      refine xp_loopL [13, 117, 118, 119, 120, 121, 122, 123, 124, 125, 126, 127, 128, 129, 130, 131, 132, 133, 134, 135] 8 (α := Nat × Option (Nat × Obj) × List Int) (fun ⟨u, pb, bs⟩ => [(13, .int .i64 u)]) (fun ⟨u, pb, bs⟩ L => L.set 3 (pb)) (fun ⟨u, pb, bs⟩ h_u => (u ≤ m.buttons.length ∧ bs.length = m.buttons.length) ∧ (∀ k, k < u → bs[k]? = (m.buttons[k]?).map (ordF o1)) ∧ AccR 3 1 (bs.flatMap intC) ⟨pb, B1, m.buttons.length, k1⟩) (fun ⟨u, pb, bs⟩ => m.buttons.length - u) ((0, p1, m.buttons)) ⟨rfl, trivial⟩ (rfl) (⟨⟨Nat.zero_le _, rfl⟩, fun k hk => by omega, ha1⟩) ?_
      rintro ⟨u, pb, bs⟩ T3 h_u E_u J_u
      refine goes_norm [_, _, _, _, _, _, _, _] rfl ?_
      obtain ⟨⟨N1, N2⟩, N3, N4⟩ := J_u
      refine xp_seq ?_
      refine xp_seq ?_
      refine xp_region rfl ?_
      refine op_pure (pv_move (v := .int .i64 _) rfl) ?_
      refine op_pure (pv_fieldAddr rfl rfl rfl rfl 5 rfl) ?_
      refine op_loadP 7 (v := .slice _ _ _) rfl rfl rfl rfl ?_
      refine op_pure (pv_len rfl rfl) ?_
      refine op_pure (pv_of (v := .bool _) rfl) ?_
      refine xp_cond rfl (fun hb => ?_) (fun hb => ?_)
      · skip
        have hil : u < m.buttons.length := by have := of_decide_eq_true hb; omega
        have hib : u < bs.length := by omega
        have mk := M.btn _ (List.getElem_mem hil)
        have hr1 : m.buttons[u].toNat < o1.length := by omega
        have hq1 : o1[m.buttons[u].toNat] = ordF o1 m.buttons[u] := (getD_get hr1).symm
        obtain ⟨gq, fq, hAq, hcq⟩ := (RM.b.ext (Ext.trans (Ext.trans (Ext.trans (Ext.trans (Ext.trans (Ext.trans (Ext.trans E3 E4) E5) E6) E7) E_i) E_j) E_u)).at (by omega) hil
        obtain ⟨g1, f1, hA1, hc1⟩ := (S1.ext (Ext.trans (Ext.trans (Ext.trans (Ext.trans (Ext.trans E5 E6) E7) E_i) E_j) E_u)).at (by omega) hr1
        rw [hq1] at hc1
        have hfl : (bs.flatMap intC).length = bs.length * 1 := flat_len (fun _ _ => rfl)
        obtain ⟨gb, len, cap, junk, he, hlen, put⟩ := AccR.parts N4 (by intro e; rw [e] at hfl; simp at hfl; omega)
        injection he with q1 q2 q3 q4
        subst q1
        rw [← q2, ← q3, ← q4] at put
        refine xp_skip ?_
        refine xp_seq ?_
        refine xp_block ?_
        refine xp_dw [] rfl rfl rfl ?_
        refine dw_pure (i := 0) rfl (by decide +kernel) (pv_fieldAddr rfl rfl rfl rfl 5 rfl) ?_
        refine dw_load (i := 1) rfl (by decide +kernel) ?_
        refine op_loadP 7 (v := .slice _ _ _) rfl rfl rfl rfl ?_
        refine dw_pure (i := 2) rfl (by decide +kernel) (pv_move (v := .int .i64 _) rfl) ?_
        refine dw_pure (i := 3) rfl (by decide +kernel) (pv_move (v := .slice _ _ _) rfl) ?_
        refine dw_pure (i := 4) rfl (by decide +kernel) (pv_fieldAddr rfl rfl rfl rfl 5 rfl) ?_
        refine dw_load (i := 5) rfl (by decide +kernel) ?_
        refine op_loadP 1 (v := .slice _ _ _) rfl rfl rfl rfl ?_
        refine dw_pure (i := 6) rfl (by decide +kernel) (pv_move (v := .int .i64 _) rfl) ?_
        refine dw_pure (i := 7) rfl (by decide +kernel) (pv_indexE rfl hAq rfl rfl rfl (by omega) (by omega)) ?_
        refine dw_load (i := 8) rfl (by decide +kernel) ?_
        refine op_load (v := .int .i64 _) rfl rfl ((hcq) 0 _ rfl) ?_
        refine dw_pure (i := 9) rfl (by decide +kernel) (pv_indexE rfl hA1 rfl rfl rfl (by omega) (by omega)) ?_
        refine dw_load (i := 10) rfl (by decide +kernel) ?_
        refine op_load (v := .int .i64 _) rfl rfl ((hc1) 0 _ rfl) ?_
        refine dw_pure (i := 11) rfl (by decide +kernel) (pv_indexE (m := 1) rfl q2 rfl rfl rfl (by omega) (by omega)) ?_
        refine dw_last (i := 12) rfl (by decide +kernel) (by decide +kernel) ?_
        refine op_storeP 3 (m := 1) (off := 0 + (u : Int).toNat * 1) (v := .int .i64 _) (vs := [.int .i64 (ordF o1 m.buttons[u])]) (c' := (bs.set u (ordF o1 m.buttons[u])).flatMap intC ++ junk) rfl rfl rfl rfl rfl rfl (Nat.ble_eq_true_of_le (by rw [List.length_append, hfl]; omega)) rfl (by rw [show 0 + (u : Int).toNat * 1 = u * 1 + 0 by omega]; exact flat_wr intE1 hib (by simp) rfl junk) ?_
        refine dw_norm [_, _, _, _, _, _, _, _] rfl ?_
        refine dw_end rfl ?_
        refine xp_region rfl ?_
        refine op_pure (pv_move (v := .int .i64 _) rfl) ?_
        refine op_pure (pv_arith rfl (by omega)) ?_
        refine op_pure (pv_assign (v := .int .i64 _) rfl) ?_
        refine ⟨(u + 1, some (gb, .cells ((bs.set u (ordF o1 m.buttons[u])).flatMap intC ++ junk).toArray 3 (0, 0)), bs.set u (ordF o1 m.buttons[u])), ⟨rfl, trivial⟩, rfl, rfl, E_u, fun h3 E3 => ⟨⟨hil, by rw [List.length_set]; exact N2⟩, set_next hib N3 (by rw [List.getElem?_eq_getElem hil]; rfl), put _ (by rw [hfl, flat_len (m := 1) (fun _ _ => rfl), List.length_set])⟩, by first | omega | (dsimp only; omega), ?_⟩
        repeat (first | exact off_base _ _ _ | refine off_upd (by decide) ?_ | refine off_updL rfl ?_ | refine off_mix rfl ?_)
      · skip
        have hie : u = m.buttons.length := by have := of_decide_eq_false hb; omega
        subst hie
        obtain ⟨p4, B4, n4, k4⟩ := a4
        obtain rfl : n4 = m.weights.length := by have := AccR.len ha4; rw [flat_len (m := 1) (fun _ _ => rfl)] at this; dsimp only at this; omega
        dsimp only at *
        refine xp_exit ?_
        refine xp_seq ?_
        refine xp_seq ?_
        refine xp_region rfl ?_
        refine op_pure (pv_assign (v := .int .i64 _) rfl) ?_
        refine xp_block ?_
        refine xp_loopL [14, 136, 137, 138, 139, 140, 141, 142, 143, 144, 145, 146, 147, 148, 149, 150, 151, 152, 153] 8 (α := Nat × Option (Nat × Obj) × List Int) (fun ⟨k, pw, ws⟩ => [(14, .int .i64 k)]) (fun ⟨k, pw, ws⟩ L => L.set 4 (pw)) (fun ⟨k, pw, ws⟩ h_k => (k ≤ m.weights.length ∧ ws.length = m.weights.length) ∧ (∀ q (h : q < m.weights.length), q < k → ws[ordN o2 q]? = some m.weights[q]) ∧ AccR 3 1 (ws.flatMap intC) ⟨pw, B4, m.weights.length, k4⟩) (fun ⟨k, pw, ws⟩ => m.weights.length - k) ((0, p4, m.weights)) ⟨rfl, trivial⟩ (rfl) (⟨⟨Nat.zero_le _, rfl⟩, fun q _ hk => by omega, ha4⟩) ?_
        rintro ⟨k, pw, ws⟩ T4 h_k E_k J_k
        refine goes_norm [_, _, _, _, _, _, _, _] rfl ?_
        obtain ⟨⟨W1, W2⟩, W3, W4⟩ := J_k
        refine xp_seq ?_
        refine xp_seq ?_
        refine xp_region rfl ?_
        refine op_pure (pv_move (v := .int .i64 _) rfl) ?_
        refine op_pure (pv_fieldAddr rfl rfl rfl rfl 1 rfl) ?_
        refine op_loadP 1 (v := .int .i64 _) rfl rfl rfl rfl ?_
        refine op_pure (pv_of (v := .bool _) rfl) ?_
        refine xp_cond rfl (fun hv => ?_) (fun hv => ?_)
        · skip
          have hkl : k < m.weights.length := by have := of_decide_eq_true hv; omega
          have hko : k < o2.length := by omega
          have hoi := O2.ordN (show k < m.levers.toNat by omega)
          have ho2 : o2[k] = ((ordN o2 k : Nat) : Int) := by have := hoi.1; rw [List.getElem?_eq_getElem hko] at this; simpa using this
          have hon : ordN o2 k < ws.length := by omega
          obtain ⟨g2, f2, hA2, hc2⟩ := (S2.ext (Ext.trans (Ext.trans (Ext.trans (Ext.trans (Ext.trans E6 E7) E_i) E_j) E_u) E_k)).at (by omega) hko
          obtain ⟨gq, fq, hAq, hcq⟩ := (RM.w.ext (Ext.trans (Ext.trans (Ext.trans (Ext.trans (Ext.trans (Ext.trans (Ext.trans (Ext.trans E3 E4) E5) E6) E7) E_i) E_j) E_u) E_k)).at (by omega) hkl
          rw [ho2] at hc2
          have hfl : (ws.flatMap intC).length = ws.length * 1 := flat_len (fun _ _ => rfl)
          obtain ⟨gb, len, cap, junk, he, hlen, put⟩ := AccR.parts W4 (by intro e; rw [e] at hfl; simp at hfl; omega)
          injection he with q1 q2 q3 q4
          subst q1
          rw [← q2, ← q3, ← q4] at put
          have nx : ∀ q (h : q < m.weights.length), q < k + 1 → (ws.set (ordN o2 k) m.weights[k])[ordN o2 q]? = some m.weights[q] := fun q h hq => by
            rw [List.getElem?_set]
            by_cases e : q = k
            · subst e; rw [if_pos rfl, if_pos hon]
            · rw [if_neg (fun e2 => e (O2.ordN_inj (by omega) (by omega) e2.symm))]
              exact W3 q h (by omega)
          refine xp_skip ?_
          refine xp_seq ?_
          refine xp_block ?_
          refine xp_dw [] rfl rfl rfl ?_
          refine dw_pure (i := 0) rfl (by decide +kernel) (pv_fieldAddr rfl rfl rfl rfl 8 rfl) ?_
          refine dw_load (i := 1) rfl (by decide +kernel) ?_
          refine op_loadP 7 (v := .slice _ _ _) rfl rfl rfl rfl ?_
          refine dw_pure (i := 2) rfl (by decide +kernel) (pv_move (v := .slice _ _ _) rfl) ?_
          refine dw_pure (i := 3) rfl (by decide +kernel) (pv_move (v := .int .i64 _) rfl) ?_
          refine dw_pure (i := 4) rfl (by decide +kernel) (pv_indexE rfl hA2 rfl rfl rfl (by omega) (by omega)) ?_
          refine dw_load (i := 5) rfl (by decide +kernel) ?_
          refine op_load (v := .int .i64 _) rfl rfl ((hc2) 0 _ rfl) ?_
          refine dw_pure (i := 6) rfl (by decide +kernel) (pv_fieldAddr rfl rfl rfl rfl 8 rfl) ?_
          refine dw_load (i := 7) rfl (by decide +kernel) ?_
          refine op_loadP 1 (v := .slice _ _ _) rfl rfl rfl rfl ?_
          refine dw_pure (i := 8) rfl (by decide +kernel) (pv_move (v := .int .i64 _) rfl) ?_
          refine dw_pure (i := 9) rfl (by decide +kernel) (pv_indexE rfl hAq rfl rfl rfl (by omega) (by omega)) ?_
          refine dw_load (i := 10) rfl (by decide +kernel) ?_
          refine op_load (v := .int .i64 _) rfl rfl ((hcq) 0 _ rfl) ?_
          refine dw_pure (i := 11) rfl (by decide +kernel) (pv_indexE (m := 1) rfl q2 rfl rfl rfl (by omega) (by omega)) ?_
          refine dw_last (i := 12) rfl (by decide +kernel) (by decide +kernel) ?_
          refine op_storeP 4 (m := 1) (off := 0 + ((ordN o2 k : Nat) : Int).toNat * 1) (v := .int .i64 _) (vs := [.int .i64 m.weights[k]]) (c' := (ws.set (ordN o2 k) m.weights[k]).flatMap intC ++ junk) rfl rfl rfl rfl rfl rfl (Nat.ble_eq_true_of_le (by rw [List.length_append, hfl]; omega)) rfl (by rw [show 0 + ((ordN o2 k : Nat) : Int).toNat * 1 = ordN o2 k * 1 + 0 by omega]; exact flat_wr intE1 hon (by simp) rfl junk) ?_
          refine dw_norm [_, _, _, _, _, _, _, _] rfl ?_
          refine dw_end rfl ?_
          refine xp_region rfl ?_
          refine op_pure (pv_move (v := .int .i64 _) rfl) ?_
          refine op_pure (pv_arith rfl (by omega)) ?_
          refine op_pure (pv_assign (v := .int .i64 _) rfl) ?_
          refine ⟨(k + 1, some (gb, .cells ((ws.set (ordN o2 k) m.weights[k]).flatMap intC ++ junk).toArray 3 (0, 0)), ws.set (ordN o2 k) m.weights[k]), ⟨rfl, trivial⟩, rfl, rfl, E_k, fun h3 E3 => ⟨⟨hkl, by rw [List.length_set]; exact W2⟩, nx, put _ (by rw [hfl, flat_len (m := 1) (fun _ _ => rfl), List.length_set])⟩, by first | omega | (dsimp only; omega), ?_⟩
          repeat (first | exact off_base _ _ _ | refine off_upd (by decide) ?_ | refine off_updL rfl ?_ | refine off_mix rfl ?_)
        · skip
          have hke : k = m.weights.length := by have := of_decide_eq_false hv; omega
          subst hke
          have Rn : Renm o1 o2 o3 m bs qs ls ws := ⟨N2, fun k h => by rw [N3 k h, List.getElem?_eq_getElem h]; rfl, K2, K3, L2, fun k h => by rw [L3 k h, List.getElem?_eq_getElem h]; rfl, W2, fun k h => W3 k h h⟩
          refine goes_pubO 3 rfl ?_
          intro g1 G1 P1
          refine goes_norm [_, _, _, _, _, _, _, _] rfl ?_
          refine goes_pubO 4 rfl ?_
          intro g4 G4 P4
          refine goes_norm [_, _, _, _, _, _, _, _] rfl ?_
          refine goes_pubO 5 rfl ?_
          intro g5 G5 P5
          refine goes_norm [_, _, _, _, _, _, _, _] rfl ?_
          refine goes_pubO 6 rfl ?_
          intro g6 G6 P6
          refine goes_norm [_, _, _, _, _, _, _, _] rfl ?_
          have RXb : Row g6 1 intC B1 bs := ⟨fun _ _ => rfl, (AccR.rd N4 P1).ext (Ext.trans (Ext.trans G4 G5) G6)⟩
          have RXq : Row g6 3 pinC B2 qs := ⟨fun _ _ => rfl, (AccR.rd K4 P5).ext G6⟩
          have RXl : Row g6 4 linkC B3 ls := ⟨fun _ _ => rfl, AccR.rd L4 P6⟩
          have RXw : Row g6 1 intC B4 ws := ⟨fun _ _ => rfl, (AccR.rd W4 P4).ext (Ext.trans G5 G6)⟩
          obtain ⟨mx, hmx⟩ : ∃ mx : MachP, mx = { m with buttons := bs, pins := qs, links := ls, weights := ws } := ⟨_, rfl⟩
          have RX : MachR g6 B1 B2 B3 B4 mx := by subst hmx; exact ⟨RXb, RXq, RXl, RXw⟩
          have MX : MOK mx := by subst hmx; exact renm_mok M O1 O2 O3 Rn
          have HX : HOK mx a := by subst hmx; exact renm_hok M O1 O2 O3 Rn H
          have tX : ∀ r : Nat, (r : Int) < m.rods → turnF mx a m.travel (ordN o1 r : Nat) = turnF m a m.travel r := fun r hr => by subst hmx; exact renm_turn M O1 O2 O3 Rn H hr
          have lX : ∀ v : Nat, (v : Int) < m.levers → liftF mx a m.travel (ordN o2 v : Nat) = liftF m a m.travel v := fun v hv => by subst hmx; exact renm_lift M O1 O2 O3 Rn H hv
          have fX : forceV mx a = forceV m a := by subst hmx; exact renm_force M O1 O2 O3 Rn H
          have eXr : mx.rods = m.rods := by rw [hmx]
          have eXl : mx.levers = m.levers := by rw [hmx]
          have eXt : mx.travel = m.travel := by rw [hmx]
          have hv : machV B1 B2 B3 B4 k1 k2 k3 k4 mx = .agg #[.int .i64 m.rods, .int .i64 m.levers, .int .i64 m.regs, .int .i64 m.travel, .int .i64 m.opn, .slice B1 m.buttons.length k1, .slice B2 m.pins.length k2, .slice B3 m.links.length k3, .slice B4 m.weights.length k4] := by
            subst hmx
            show Value.agg #[.int .i64 m.rods, .int .i64 m.levers, .int .i64 m.regs, .int .i64 m.travel, .int .i64 m.opn, .slice B1 bs.length k1, .slice B2 qs.length k2, .slice B3 ls.length k3, .slice B4 ws.length k4] = _
            rw [N2, K2, L2, W2]
          obtain ⟨la, hla⟩ : ∃ x, x = liftedM m (turnedM m a m.travel) := ⟨_, rfl⟩
          obtain ⟨lb, hlb⟩ : ∃ x, x = liftedM mx (turnedM mx a mx.travel) := ⟨_, rfl⟩
          obtain ⟨ta, hta⟩ : ∃ x, x = turnsL m a := ⟨_, rfl⟩
          obtain ⟨tb, htb⟩ : ∃ x, x = turnsL mx a := ⟨_, rfl⟩
          have ela : la.length = m.levers.toNat := by rw [hla, lifted_len]
          have elb : lb.length = m.levers.toNat := by rw [hlb, lifted_len, eXl]
          have eta : ta.length = m.rods.toNat := by rw [hta, turns_len M H]
          have etb : tb.length = m.rods.toNat := by rw [htb, turns_len MX HX, eXr]
          have ga : ∀ k (hk : k < la.length), la[k] = liftF m a m.travel k := fun k hk => by subst hla; exact lifted_at hk
          have gb : ∀ k (hk : k < lb.length), lb[k] = liftF mx a m.travel k := fun k hk => by subst hlb; rw [lifted_at hk, eXt]
          have gc : ∀ k (hk : k < ta.length), ta[k] = turnF m a m.travel k := fun k hk => by subst hta; exact turns_at M H hk
          have gd : ∀ k (hk : k < tb.length), tb[k] = turnF mx a m.travel k := fun k hk => by subst htb; rw [turns_at MX HX hk, eXt]
          have Q1 := Lifts_ok rfl m a AB AQ AL AW HA OA cB cQ cL cW cH cO
          have Q2 := Lifts_ok rfl mx a B1 B2 B3 B4 HA OA k1 k2 k3 k4 cH cO
          have Q3 := Turns_ok rfl m a AB AQ AL AW HA OA cB cQ cL cW cH cO
          have Q4 := Turns_ok rfl mx a B1 B2 B3 B4 HA OA k1 k2 k3 k4 cH cO
          have Q5 := Force_ok rfl m a AB AQ AL AW HA OA cB cQ cL cW cH cO
          have Q6 := Force_ok rfl mx a B1 B2 B3 B4 HA OA k1 k2 k3 k4 cH cO
          rw [hand_of M H, show liftsL m a = la by rw [liftsL, if_pos (hand_of M H), hla]] at Q1
          rw [hand_of MX HX, show liftsL mx a = lb by rw [liftsL, if_pos (hand_of MX HX), hlb], hv] at Q2
          rw [hand_of M H, ← hta] at Q3
          rw [hand_of MX HX, ← htb, hv] at Q4
          rw [hand_of M H] at Q5
          rw [hand_of MX HX, fX, hv] at Q6
          have wX := MX.wlen
          have bX := HX.blen MX
          have oX := HX.olen MX
          subst hmx
          have d1 : ((la.length : Int) != m.levers) = false := by simp; omega
          have d2 : ((lb.length : Int) != m.levers) = false := by simp; omega
          have d3 : ((ta.length : Int) != m.rods) = false := by simp; omega
          have d4 : ((tb.length : Int) != m.rods) = false := by simp; omega
          have d5 : (forceV m a != forceV m a) = false := by simp
          refine xp_exit ?_
          refine xp_seq ?_
          refine xp_region rfl ?_
          refine op_loadPA 1 (vs := [.int .i64 _, .int .i64 _, .int .i64 _, .int .i64 _, .int .i64 _, .slice _ _ _, .slice _ _ _, .slice _ _ _, .slice _ _ _]) rfl rfl rfl rfl rfl ?_
          refine op_loadPA 2 (vs := [.slice _ _ _, .slice _ _ _]) rfl rfl rfl rfl rfl ?_
          refine op_fn (caps := []) (vs := [.agg _, .agg _]) rfl rfl rfl (Q1 g6 (RM.ext (Ext.trans (Ext.trans (Ext.trans (Ext.trans (Ext.trans (Ext.trans (Ext.trans (Ext.trans (Ext.trans (Ext.trans (Ext.trans (Ext.trans E3 E4) E5) E6) E7) E_i) E_j) E_u) E_k) G1) G4) G5) G6)) (RH.ext (Ext.trans (Ext.trans (Ext.trans (Ext.trans (Ext.trans (Ext.trans (Ext.trans (Ext.trans (Ext.trans (Ext.trans (Ext.trans E4 E5) E6) E7) E_i) E_j) E_u) E_k) G1) G4) G5) G6)) M.wlen (H.blen M) (H.olen M)) ?_
          rintro _ h20 E20 ⟨_, rfl, A20, c20, rfl, S20⟩
          refine op_pure (pv_move (v := .tuple #[.slice _ _ _, .int .i64 _]) rfl) ?_
          refine op_pure (pv_of (v := .slice _ _ _) rfl) ?_
          refine op_pure (pv_of (v := .int .i64 _) rfl) ?_
          refine op_pure (pv_assign (v := .slice _ _ _) rfl) ?_
          refine op_pure (pv_assign (v := .int .i64 _) rfl) ?_
          refine xp_seq ?_
          refine xp_region rfl ?_
          refine op_loadPA 7 (vs := [.int .i64 _, .int .i64 _, .int .i64 _, .int .i64 _, .int .i64 _, .slice _ _ _, .slice _ _ _, .slice _ _ _, .slice _ _ _]) rfl rfl rfl rfl rfl ?_
          refine op_loadPA 2 (vs := [.slice _ _ _, .slice _ _ _]) rfl rfl rfl rfl rfl ?_
          refine op_fn (caps := []) (vs := [.agg _, .agg _]) rfl rfl rfl (Q2 h20 (RX.ext E20) (RH.ext (Ext.trans (Ext.trans (Ext.trans (Ext.trans (Ext.trans (Ext.trans (Ext.trans (Ext.trans (Ext.trans (Ext.trans (Ext.trans (Ext.trans E4 E5) E6) E7) E_i) E_j) E_u) E_k) G1) G4) G5) G6) E20)) wX bX oX) ?_
          rintro _ h21 E21 ⟨_, rfl, A21, c21, rfl, S21⟩
          refine op_pure (pv_move (v := .tuple #[.slice _ _ _, .int .i64 _]) rfl) ?_
          refine op_pure (pv_of (v := .slice _ _ _) rfl) ?_
          refine op_pure (pv_of (v := .int .i64 _) rfl) ?_
          refine op_pure (pv_assign (v := .slice _ _ _) rfl) ?_
          refine op_pure (pv_assign (v := .int .i64 _) rfl) ?_
          refine xp_seq ?_
          refine xp_region rfl ?_
          refine op_loadPA 1 (vs := [.int .i64 _, .int .i64 _, .int .i64 _, .int .i64 _, .int .i64 _, .slice _ _ _, .slice _ _ _, .slice _ _ _, .slice _ _ _]) rfl rfl rfl rfl rfl ?_
          refine op_loadPA 2 (vs := [.slice _ _ _, .slice _ _ _]) rfl rfl rfl rfl rfl ?_
          refine op_fn (caps := []) (vs := [.agg _, .agg _]) rfl rfl rfl (Q3 h21 (RM.ext (Ext.trans (Ext.trans (Ext.trans (Ext.trans (Ext.trans (Ext.trans (Ext.trans (Ext.trans (Ext.trans (Ext.trans (Ext.trans (Ext.trans (Ext.trans (Ext.trans E3 E4) E5) E6) E7) E_i) E_j) E_u) E_k) G1) G4) G5) G6) E20) E21)) (RH.ext (Ext.trans (Ext.trans (Ext.trans (Ext.trans (Ext.trans (Ext.trans (Ext.trans (Ext.trans (Ext.trans (Ext.trans (Ext.trans (Ext.trans (Ext.trans E4 E5) E6) E7) E_i) E_j) E_u) E_k) G1) G4) G5) G6) E20) E21)) M.wlen (H.blen M) (H.olen M)) ?_
          rintro _ h22 E22 ⟨_, rfl, A22, c22, rfl, S22⟩
          refine op_pure (pv_move (v := .tuple #[.slice _ _ _, .int .i64 _]) rfl) ?_
          refine op_pure (pv_of (v := .slice _ _ _) rfl) ?_
          refine op_pure (pv_of (v := .int .i64 _) rfl) ?_
          refine op_pure (pv_assign (v := .slice _ _ _) rfl) ?_
          refine op_pure (pv_assign (v := .int .i64 _) rfl) ?_
          refine xp_seq ?_
          refine xp_region rfl ?_
          refine op_loadPA 7 (vs := [.int .i64 _, .int .i64 _, .int .i64 _, .int .i64 _, .int .i64 _, .slice _ _ _, .slice _ _ _, .slice _ _ _, .slice _ _ _]) rfl rfl rfl rfl rfl ?_
          refine op_loadPA 2 (vs := [.slice _ _ _, .slice _ _ _]) rfl rfl rfl rfl rfl ?_
          refine op_fn (caps := []) (vs := [.agg _, .agg _]) rfl rfl rfl (Q4 h22 (RX.ext (Ext.trans (Ext.trans E20 E21) E22)) (RH.ext (Ext.trans (Ext.trans (Ext.trans (Ext.trans (Ext.trans (Ext.trans (Ext.trans (Ext.trans (Ext.trans (Ext.trans (Ext.trans (Ext.trans (Ext.trans (Ext.trans E4 E5) E6) E7) E_i) E_j) E_u) E_k) G1) G4) G5) G6) E20) E21) E22)) wX bX oX) ?_
          rintro _ h23 E23 ⟨_, rfl, A23, c23, rfl, S23⟩
          refine op_pure (pv_move (v := .tuple #[.slice _ _ _, .int .i64 _]) rfl) ?_
          refine op_pure (pv_of (v := .slice _ _ _) rfl) ?_
          refine op_pure (pv_of (v := .int .i64 _) rfl) ?_
          refine op_pure (pv_assign (v := .slice _ _ _) rfl) ?_
          refine op_pure (pv_assign (v := .int .i64 _) rfl) ?_
          refine xp_seq ?_
          refine xp_region rfl ?_
          refine op_loadPA 1 (vs := [.int .i64 _, .int .i64 _, .int .i64 _, .int .i64 _, .int .i64 _, .slice _ _ _, .slice _ _ _, .slice _ _ _, .slice _ _ _]) rfl rfl rfl rfl rfl ?_
          refine op_loadPA 2 (vs := [.slice _ _ _, .slice _ _ _]) rfl rfl rfl rfl rfl ?_
          refine op_fn (caps := []) (vs := [.agg _, .agg _]) rfl rfl rfl (Q5 h23 (RM.ext (Ext.trans (Ext.trans (Ext.trans (Ext.trans (Ext.trans (Ext.trans (Ext.trans (Ext.trans (Ext.trans (Ext.trans (Ext.trans (Ext.trans (Ext.trans (Ext.trans (Ext.trans (Ext.trans E3 E4) E5) E6) E7) E_i) E_j) E_u) E_k) G1) G4) G5) G6) E20) E21) E22) E23)) (RH.ext (Ext.trans (Ext.trans (Ext.trans (Ext.trans (Ext.trans (Ext.trans (Ext.trans (Ext.trans (Ext.trans (Ext.trans (Ext.trans (Ext.trans (Ext.trans (Ext.trans (Ext.trans E4 E5) E6) E7) E_i) E_j) E_u) E_k) G1) G4) G5) G6) E20) E21) E22) E23)) M.wlen (H.blen M) (H.olen M)) ?_
          rintro _ h24 E24 rfl
          refine op_pure (pv_move (v := .tuple #[.int .i64 _, .int .i64 _]) rfl) ?_
          refine op_pure (pv_of (v := .int .i64 _) rfl) ?_
          refine op_pure (pv_of (v := .int .i64 _) rfl) ?_
          refine op_pure (pv_assign (v := .int .i64 _) rfl) ?_
          refine op_pure (pv_assign (v := .int .i64 _) rfl) ?_
          refine xp_seq ?_
          refine xp_region rfl ?_
          refine op_loadPA 7 (vs := [.int .i64 _, .int .i64 _, .int .i64 _, .int .i64 _, .int .i64 _, .slice _ _ _, .slice _ _ _, .slice _ _ _, .slice _ _ _]) rfl rfl rfl rfl rfl ?_
          refine op_loadPA 2 (vs := [.slice _ _ _, .slice _ _ _]) rfl rfl rfl rfl rfl ?_
          refine op_fn (caps := []) (vs := [.agg _, .agg _]) rfl rfl rfl (Q6 h24 (RX.ext (Ext.trans (Ext.trans (Ext.trans (Ext.trans E20 E21) E22) E23) E24)) (RH.ext (Ext.trans (Ext.trans (Ext.trans (Ext.trans (Ext.trans (Ext.trans (Ext.trans (Ext.trans (Ext.trans (Ext.trans (Ext.trans (Ext.trans (Ext.trans (Ext.trans (Ext.trans (Ext.trans E4 E5) E6) E7) E_i) E_j) E_u) E_k) G1) G4) G5) G6) E20) E21) E22) E23) E24)) wX bX oX) ?_
          rintro _ h25 E25 rfl
          refine op_pure (pv_move (v := .tuple #[.int .i64 _, .int .i64 _]) rfl) ?_
          refine op_pure (pv_of (v := .int .i64 _) rfl) ?_
          refine op_pure (pv_of (v := .int .i64 _) rfl) ?_
          refine op_pure (pv_assign (v := .int .i64 _) rfl) ?_
          refine op_pure (pv_assign (v := .int .i64 _) rfl) ?_
          refine xp_seq ?_
          refine xp_seq ?_
          refine xp_region rfl ?_
          refine op_pure (pv_move (v := .int .i64 _) rfl) ?_
          refine op_pure (pv_of (v := .bool _) rfl) ?_
          refine op_pure (pv_move (v := .bool _) rfl) ?_
          refine guard_yes rfl rfl ?_
          refine op_pure (pv_move (v := .int .i64 _) rfl) ?_
          refine guard_yes rfl rfl ?_
          refine op_pure (pv_of (v := .bool _) rfl) ?_
          refine op_pure (pv_pickF rfl rfl (v := .bool _) rfl) ?_
          refine op_pure (pv_move (v := .bool _) rfl) ?_
          refine guard_yes rfl rfl ?_
          refine op_pure (pv_move (v := .int .i64 _) rfl) ?_
          refine guard_yes rfl rfl ?_
          refine op_pure (pv_of (v := .bool _) rfl) ?_
          refine op_pure (pv_pickF rfl rfl (v := .bool _) rfl) ?_
          refine op_pure (pv_move (v := .bool _) rfl) ?_
          refine guard_yes rfl rfl ?_
          refine op_pure (pv_move (v := .int .i64 _) rfl) ?_
          refine guard_yes rfl rfl ?_
          refine op_pure (pv_of (v := .bool _) rfl) ?_
          refine op_pure (pv_pickF rfl rfl (v := .bool _) rfl) ?_
          refine op_pure (pv_move (v := .bool _) rfl) ?_
          refine guard_yes rfl rfl ?_
          refine op_pure (pv_move (v := .int .i64 _) rfl) ?_
          refine guard_yes rfl rfl ?_
          refine op_pure (pv_of (v := .bool _) rfl) ?_
          refine op_pure (pv_pickF rfl rfl (v := .bool _) rfl) ?_
          refine op_pure (pv_move (v := .bool _) rfl) ?_
          refine guard_yes rfl rfl ?_
          refine op_pure (pv_move (v := .int .i64 _) rfl) ?_
          refine guard_yes rfl rfl ?_
          refine op_pure (pv_of (v := .bool _) rfl) ?_
          refine op_pure (pv_pickF rfl rfl (v := .bool _) rfl) ?_
          refine op_pure (pv_move (v := .bool _) rfl) ?_
          refine guard_yes rfl rfl ?_
          refine op_pure (pv_move (v := .int .i64 _) rfl) ?_
          refine guard_yes rfl rfl ?_
          refine op_pure (pv_move (v := .int .i64 _) rfl) ?_
          refine guard_yes rfl rfl ?_
          refine op_pure (pv_of (v := .bool _) rfl) ?_
          refine op_pure (pv_pickF rfl rfl (v := .bool _) rfl) ?_
          refine op_pure (pv_move (v := .bool _) rfl) ?_
          refine guard_yes rfl d5 ?_
          refine op_pure (pv_move (v := .slice _ _ _) rfl) ?_
          refine guard_yes rfl d5 ?_
          refine op_pure (pv_len rfl rfl) ?_
          refine guard_yes rfl d5 ?_
          refine op_pure (pv_fieldAddr rfl rfl rfl rfl 1 rfl) ?_
          refine guard_yes rfl d5 ?_
          refine op_loadP 1 (v := .int .i64 _) rfl rfl rfl rfl ?_
          refine guard_yes rfl d5 ?_
          refine op_pure (pv_of (v := .bool _) rfl) ?_
          refine op_pure (pv_pickF rfl d5 (v := .bool _) rfl) ?_
          refine op_pure (pv_move (v := .bool _) rfl) ?_
          refine guard_yes rfl d1 ?_
          refine op_pure (pv_move (v := .slice _ _ _) rfl) ?_
          refine guard_yes rfl d1 ?_
          refine op_pure (pv_len rfl rfl) ?_
          refine guard_yes rfl d1 ?_
          refine op_pure (pv_fieldAddr rfl rfl rfl rfl 1 rfl) ?_
          refine guard_yes rfl d1 ?_
          refine op_loadP 1 (v := .int .i64 _) rfl rfl rfl rfl ?_
          refine guard_yes rfl d1 ?_
          refine op_pure (pv_of (v := .bool _) rfl) ?_
          refine op_pure (pv_pickF rfl d1 (v := .bool _) rfl) ?_
          refine op_pure (pv_move (v := .bool _) rfl) ?_
          refine guard_yes rfl d2 ?_
          refine op_pure (pv_move (v := .slice _ _ _) rfl) ?_
          refine guard_yes rfl d2 ?_
          refine op_pure (pv_len rfl rfl) ?_
          refine guard_yes rfl d2 ?_
          refine op_pure (pv_fieldAddr rfl rfl rfl rfl 0 rfl) ?_
          refine guard_yes rfl d2 ?_
          refine op_loadP 1 (v := .int .i64 _) rfl rfl rfl rfl ?_
          refine guard_yes rfl d2 ?_
          refine op_pure (pv_of (v := .bool _) rfl) ?_
          refine op_pure (pv_pickF rfl d2 (v := .bool _) rfl) ?_
          refine op_pure (pv_move (v := .bool _) rfl) ?_
          refine guard_yes rfl d3 ?_
          refine op_pure (pv_move (v := .slice _ _ _) rfl) ?_
          refine guard_yes rfl d3 ?_
          refine op_pure (pv_len rfl rfl) ?_
          refine guard_yes rfl d3 ?_
          refine op_pure (pv_fieldAddr rfl rfl rfl rfl 0 rfl) ?_
          refine guard_yes rfl d3 ?_
          refine op_loadP 1 (v := .int .i64 _) rfl rfl rfl rfl ?_
          refine guard_yes rfl d3 ?_
          refine op_pure (pv_of (v := .bool _) rfl) ?_
          refine op_pure (pv_pickF rfl d3 (v := .bool _) rfl) ?_
          refine xp_condF rfl (d4) ?_
          refine xp_skip ?_
          refine xp_seq ?_
          refine xp_seq ?_
          refine xp_region rfl ?_
          refine op_pure (pv_assign (v := .int .i64 _) rfl) ?_
          refine xp_block ?_
          refine xp_loopB [2, 27, 245, 246, 247, 248, 249, 250, 251, 252, 253, 254, 255, 256, 257, 258, 259, 260, 261, 262] 8 (α := Nat) (fun v => [(27, .int .i64 v)]) (fun v => _) (fun v h_v => v ≤ m.levers.toNat) (fun v => m.levers.toNat - v) (0) ⟨rfl, trivial⟩ (rfl) (Nat.zero_le _) ?_
          rintro v T5 h_v E_v J_v
          refine goes_norm [_, _, _, _, _, _, _, _] rfl ?_
          refine xp_seq ?_
          refine xp_seq ?_
          refine xp_region rfl ?_
          refine op_pure (pv_move (v := .int .i64 _) rfl) ?_
          refine op_pure (pv_fieldAddr rfl rfl rfl rfl 1 rfl) ?_
          refine op_loadP 1 (v := .int .i64 _) rfl rfl rfl rfl ?_
          refine op_pure (pv_of (v := .bool _) rfl) ?_
          refine xp_cond rfl (fun hv => ?_) (fun hv => ?_)
          · skip
            have hvl : (v : Int) < m.levers := of_decide_eq_true hv
            have i1 : v < la.length := by omega
            have i2 : v < o2.length := by omega
            have hoi := O2.ordN (show v < m.levers.toNat by omega)
            have ho : o2[v] = ((ordN o2 v : Nat) : Int) := by have := hoi.1; rw [List.getElem?_eq_getElem i2] at this; simpa using this
            have i3 : ordN o2 v < lb.length := by omega
            have e9 : la[v] = lb[ordN o2 v] := by rw [ga _ i1, gb _ i3, lX _ hvl]
            obtain ⟨y1, z1, hA1, hc1⟩ := (S20.ext (Ext.trans (Ext.trans (Ext.trans (Ext.trans (Ext.trans E21 E22) E23) E24) E25) E_v)).at (by omega) i1
            obtain ⟨y2, z2, hA2, hc2⟩ := (S2.ext (Ext.trans (Ext.trans (Ext.trans (Ext.trans (Ext.trans (Ext.trans (Ext.trans (Ext.trans (Ext.trans (Ext.trans (Ext.trans (Ext.trans (Ext.trans (Ext.trans (Ext.trans (Ext.trans E6 E7) E_i) E_j) E_u) E_k) G1) G4) G5) G6) E20) E21) E22) E23) E24) E25) E_v)).at (by omega) i2
            obtain ⟨y3, z3, hA3, hc3⟩ := (S21.ext (Ext.trans (Ext.trans (Ext.trans (Ext.trans E22 E23) E24) E25) E_v)).at (by omega) i3
            rw [ho] at hc2
            refine xp_skip ?_
            refine xp_seq ?_
            refine xp_block ?_
            refine xp_seq ?_
            refine xp_dw [] rfl rfl rfl ?_
            refine dw_pure (i := 0) rfl (by decide +kernel) (pv_move (v := .slice _ _ _) rfl) ?_
            refine dw_pure (i := 1) rfl (by decide +kernel) (pv_move (v := .int .i64 _) rfl) ?_
            refine dw_pure (i := 2) rfl (by decide +kernel) (pv_indexE rfl hA1 rfl rfl rfl (by omega) (by omega)) ?_
            refine dw_load (i := 3) rfl (by decide +kernel) ?_
            refine op_load (v := .int .i64 _) rfl rfl ((hc1) 0 _ rfl) ?_
            refine dw_pure (i := 4) rfl (by decide +kernel) (pv_move (v := .slice _ _ _) rfl) ?_
            refine dw_pure (i := 5) rfl (by decide +kernel) (pv_move (v := .slice _ _ _) rfl) ?_
            refine dw_pure (i := 6) rfl (by decide +kernel) (pv_move (v := .int .i64 _) rfl) ?_
            refine dw_pure (i := 7) rfl (by decide +kernel) (pv_indexE rfl hA2 rfl rfl rfl (by omega) (by omega)) ?_
            refine dw_load (i := 8) rfl (by decide +kernel) ?_
            refine op_load (v := .int .i64 _) rfl rfl ((hc2) 0 _ rfl) ?_
            refine dw_pure (i := 9) rfl (by decide +kernel) (pv_indexE rfl hA3 rfl rfl rfl (by omega) (by omega)) ?_
            refine dw_load (i := 10) rfl (by decide +kernel) ?_
            refine op_load (v := .int .i64 _) rfl rfl ((hc3) 0 _ rfl) ?_
            refine dw_pure (i := 11) rfl (by decide +kernel) (pv_of (v := .bool _) rfl) ?_
            refine dw_end rfl ?_
            refine xp_condF rfl (by rw [e9]; simp) ?_
            refine xp_skip ?_
            refine xp_region rfl ?_
            refine op_pure (pv_move (v := .int .i64 _) rfl) ?_
            refine op_pure (pv_arith rfl (by omega)) ?_
            refine op_pure (pv_assign (v := .int .i64 _) rfl) ?_
            refine ⟨v + 1, ⟨rfl, trivial⟩, rfl, rfl, E_v, fun h3 E3 => by omega, by first | omega | (dsimp only; omega), ?_⟩
            repeat (first | exact off_base _ _ _ | refine off_upd (by decide) ?_ | refine off_updL rfl ?_ | refine off_mix rfl ?_)
          · skip
            refine xp_exit ?_
            refine xp_seq ?_
            refine xp_seq ?_
            refine xp_region rfl ?_
            refine op_pure (pv_assign (v := .int .i64 _) rfl) ?_
            refine xp_block ?_
            refine xp_loopB [2, 28, 263, 264, 265, 266, 267, 268, 269, 270, 271, 272, 273, 274, 275, 276, 277, 278, 279, 280] 8 (α := Nat) (fun r => [(28, .int .i64 r)]) (fun r => _) (fun r h_r => r ≤ m.rods.toNat) (fun r => m.rods.toNat - r) (0) ⟨rfl, trivial⟩ (rfl) (Nat.zero_le _) ?_
            rintro r T6 h_r E_r J_r
            refine goes_norm [_, _, _, _, _, _, _, _] rfl ?_
            refine xp_seq ?_
            refine xp_seq ?_
            refine xp_region rfl ?_
            refine op_pure (pv_move (v := .int .i64 _) rfl) ?_
            refine op_pure (pv_fieldAddr rfl rfl rfl rfl 0 rfl) ?_
            refine op_loadP 1 (v := .int .i64 _) rfl rfl rfl rfl ?_
            refine op_pure (pv_of (v := .bool _) rfl) ?_
            refine xp_cond rfl (fun hr => ?_) (fun hr => ?_)
            · skip
              have hrl : (r : Int) < m.rods := of_decide_eq_true hr
              have i1 : r < ta.length := by omega
              have i2 : r < o1.length := by omega
              have hoi := O1.ordN (show r < m.rods.toNat by omega)
              have ho : o1[r] = ((ordN o1 r : Nat) : Int) := by have := hoi.1; rw [List.getElem?_eq_getElem i2] at this; simpa using this
              have i3 : ordN o1 r < tb.length := by omega
              have e9 : ta[r] = tb[ordN o1 r] := by rw [gc _ i1, gd _ i3, tX _ hrl]
              obtain ⟨y1, z1, hA1, hc1⟩ := (S22.ext (Ext.trans (Ext.trans (Ext.trans (Ext.trans E23 E24) E25) E_v) E_r)).at (by omega) i1
              obtain ⟨y2, z2, hA2, hc2⟩ := (S1.ext (Ext.trans (Ext.trans (Ext.trans (Ext.trans (Ext.trans (Ext.trans (Ext.trans (Ext.trans (Ext.trans (Ext.trans (Ext.trans (Ext.trans (Ext.trans (Ext.trans (Ext.trans (Ext.trans (Ext.trans (Ext.trans E5 E6) E7) E_i) E_j) E_u) E_k) G1) G4) G5) G6) E20) E21) E22) E23) E24) E25) E_v) E_r)).at (by omega) i2
              obtain ⟨y3, z3, hA3, hc3⟩ := (S23.ext (Ext.trans (Ext.trans (Ext.trans E24 E25) E_v) E_r)).at (by omega) i3
              rw [ho] at hc2
              refine xp_skip ?_
              refine xp_seq ?_
              refine xp_block ?_
              refine xp_seq ?_
              refine xp_dw [] rfl rfl rfl ?_
              refine dw_pure (i := 0) rfl (by decide +kernel) (pv_move (v := .slice _ _ _) rfl) ?_
              refine dw_pure (i := 1) rfl (by decide +kernel) (pv_move (v := .int .i64 _) rfl) ?_
              refine dw_pure (i := 2) rfl (by decide +kernel) (pv_indexE rfl hA1 rfl rfl rfl (by omega) (by omega)) ?_
              refine dw_load (i := 3) rfl (by decide +kernel) ?_
              refine op_load (v := .int .i64 _) rfl rfl ((hc1) 0 _ rfl) ?_
              refine dw_pure (i := 4) rfl (by decide +kernel) (pv_move (v := .slice _ _ _) rfl) ?_
              refine dw_pure (i := 5) rfl (by decide +kernel) (pv_move (v := .slice _ _ _) rfl) ?_
              refine dw_pure (i := 6) rfl (by decide +kernel) (pv_move (v := .int .i64 _) rfl) ?_
              refine dw_pure (i := 7) rfl (by decide +kernel) (pv_indexE rfl hA2 rfl rfl rfl (by omega) (by omega)) ?_
              refine dw_load (i := 8) rfl (by decide +kernel) ?_
              refine op_load (v := .int .i64 _) rfl rfl ((hc2) 0 _ rfl) ?_
              refine dw_pure (i := 9) rfl (by decide +kernel) (pv_indexE rfl hA3 rfl rfl rfl (by omega) (by omega)) ?_
              refine dw_load (i := 10) rfl (by decide +kernel) ?_
              refine op_load (v := .int .i64 _) rfl rfl ((hc3) 0 _ rfl) ?_
              refine dw_pure (i := 11) rfl (by decide +kernel) (pv_of (v := .bool _) rfl) ?_
              refine dw_end rfl ?_
              refine xp_condF rfl (by rw [e9]; simp) ?_
              refine xp_skip ?_
              refine xp_region rfl ?_
              refine op_pure (pv_move (v := .int .i64 _) rfl) ?_
              refine op_pure (pv_arith rfl (by omega)) ?_
              refine op_pure (pv_assign (v := .int .i64 _) rfl) ?_
              refine ⟨r + 1, ⟨rfl, trivial⟩, rfl, rfl, E_r, fun h3 E3 => by omega, by first | omega | (dsimp only; omega), ?_⟩
              repeat (first | exact off_base _ _ _ | refine off_upd (by decide) ?_ | refine off_updL rfl ?_ | refine off_mix rfl ?_)
            · skip
              refine xp_exit ?_
              refine xp_seq ?_
              refine xp_region rfl ?_
              refine op_fn (caps := []) (vs := []) rfl rfl rfl (rod_sounding rfl h_r) ?_
              rintro _ h26 E26 rfl
              refine op_pure (pv_assign (v := .bool _) rfl) ?_
              refine xp_ret ?_
              exact ⟨rfl, fun V => (Ext.trans (Ext.trans (Ext.trans (Ext.trans (Ext.trans (Ext.trans (Ext.trans (Ext.trans (Ext.trans (Ext.trans (Ext.trans (Ext.trans (Ext.trans (Ext.trans (Ext.trans (Ext.trans (Ext.trans (Ext.trans (Ext.trans (Ext.trans (Ext.trans (Ext.trans (Ext.trans (Ext.trans E1 E2) E3) E4) E5) E6) E7) E_i) E_j) E_u) E_k) G1) G4) G5) G6) E20) E21) E22) E23) E24) E25) E_v) E_r) E26) (ext_wl V)), rfl⟩
end
end Go.Proofs.Ythphpbdmbmiaiaa
