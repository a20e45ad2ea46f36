/- An own logic over the model, its walks and its plain laws, joined of parts GP R19 GQ Rm Rn Ro R20 R21 U Uc Rp GS R23 R24. Conditions: as each theorem states. -/
import Derived.Test.YthphpbdmbmiaiaaLa4
import Derived.Test.YthphpbdmbmiaiaaLa1
import Derived.Test.YthphpbdmbmiaiaaLa2
import Derived.Conc.LeavingOf
set_option linter.all false
/- The own logic, part GP: drawn regions where guarded operations that only make a block may come in any order. Conditions: none. -/
namespace Go.HL
open Go
variable [Lvl]
section
variable {P : Program} {n : Nat} {ops : Array Oper}
theorem T1_fin {o : Oper} {S : Sl} {H : AH} {X : Sl → AH → Prop} (t : T1 P n ops o X S H) (f : Fin H) : T1 P n ops o (fun S' H' => Fin H' ∧ X S' H') S H := by
  unfold T1 at t ⊢
  split
  · rename_i hg
    rw [hg] at t
    exact opW_fin t f
  · rename_i j w hg
    rw [hg] at t
    obtain ⟨b, h1, h2, h3⟩ := t
    exact ⟨b, h1, fun e => opW_fin (h2 e) f, fun e => ⟨f, h3 e⟩⟩
theorem T1_guard {o : Oper} {j : Nat} {w : Bool} (hg : o.guard = some (j, w)) {S : Sl} {H : AH} {X : Sl → AH → Prop} :
    T1 P n ops o X S H ↔ (gval (ev n S (.tmp (((ops[j]?).bind (·.dst)).getD n))) = some w → T1 P n ops { o with guard := none } X S H) ∧ (gval (ev n S (.tmp (((ops[j]?).bind (·.dst)).getD n))) ≠ some w → X (put S o.dst undef) H) := by
  obtain ⟨d, op, ty, ps, af, gd⟩ := o
  simp only at hg
  subst hg
  constructor
  · rintro ⟨b, h1, h2, h3⟩
    subst h1
    exact ⟨fun e => h2 e, fun e => h3 e⟩
  · rintro ⟨h2, h3⟩
    exact ⟨_, rfl, fun e => h2 e, fun e => h3 e⟩
theorem el_left {d : Nat} : ∀ {a b : List Nat}, el d (a ++ b) = false → el d a = false
  | [], _, _ => rfl
  | x :: a, b, h => by
    rw [List.cons_append, el_cons, Bool.or_eq_false_iff] at h
    rw [el_cons, h.1, el_left h.2]
    rfl
theorem apart_bare {oi oj : Oper} (h : apart (ops := ops) oi oj = true) : apart (ops := ops) oi { oj with guard := none } = true := by
  unfold apart at h ⊢
  rw [Bool.and_eq_true] at h ⊢
  refine ⟨?_, h.2⟩
  have h1 := h.1
  cases hd : oi.dst with
  | none => rfl
  | some d =>
    rw [hd] at h1
    simp only [Bool.and_eq_true, Bool.not_eq_true'] at h1 ⊢
    refine ⟨?_, h1.2⟩
    have : reads ops { oj with guard := none } = opTmps oj.op ++ [] := rfl
    rw [this, List.append_nil]
    exact el_left h1.1
theorem guard_same {oi oj : Oper} {j : Nat} {w : Bool} (hg : oj.guard = some (j, w)) (hap : apart (ops := ops) oi oj = true) (S : Sl) (v : Value) :
    ev n (put S oi.dst v) (.tmp (((ops[j]?).bind (·.dst)).getD n)) = ev n S (.tmp (((ops[j]?).bind (·.dst)).getD n)) := by
  cases hd : (ops[j]?).bind (·.dst) with
  | none => simp [ev]
  | some d =>
    have := put_agree hap S v d (List.mem_append_right _ (by simp [guardT, hg, hd]))
    simp only [Option.getD_some, ev]
    rw [this]
/-- An operation that only makes a block, or hands a value on, may come first: guarded or not. -/
theorem swap_freeG {oi oj : Oper} {S : Sl} {H : AH} {Y : Sl → AH → Prop} (hf : freeOp oj.op = true) (hap : apart (ops := ops) oi oj = true) (fH : Fin H)
    (t : T1 P n ops oi (fun S' H' => T1 P n ops oj Y S' H') S H) : T1 P n ops oj (fun S' H' => Ext H H' ∧ T1 P n ops oi Y S' H') S H := by
  cases hg : oj.guard with
  | none => exact swap_free hf hg hap fH t
  | some jw =>
    obtain ⟨j, w⟩ := jw
    rw [T1_guard hg]
    constructor
    · intro hv
      refine swap_free (oj := { oj with guard := none }) hf rfl (apart_bare hap) fH ?_
      refine T1_mono' (fun v H' y => ?_) t
      exact ((T1_guard hg).1 y).1 (by rw [guard_same hg hap]; exact hv)
    · intro hv
      refine ⟨Ext.refl H, ?_⟩
      have t2 : T1 P n ops oi (fun S' H' => Y (put S' oj.dst undef) H') S H := T1_mono' (fun v H' y => ((T1_guard hg).1 y).2 (by rw [guard_same hg hap]; exact hv)) t
      refine T1_agree (X := fun S' H' => Y (put S' oj.dst undef) H') (fun x hx => (put_agree (apart_symm hap) S undef x hx).symm) ?_ t2
      intro v H' y
      rw [put_swap hap S v undef] at y
      exact y
/-- An operation is taken first where only operations that make a block or hand a value on could come ahead of it. -/
theorem take_anyG {X : Sl → AH → Prop} {i : Nat} {oi : Oper} (hoi : ops[i]? = some oi) :
    ∀ (m : Nat) (dn ac : List Nat) (G : Gh) (S : Sl) (H : AH), Fin H → (left ops dn).length = m + 1 → ready ops dn i = true → (∀ k, el k (blk ops i) = true → el k dn = false) → GT ops ac G H →
      (∀ g ∈ G, ∀ H1 H2, Ext H1 H2 → g.2 H1 → g.2 H2) →
      (∀ j oj, ops[j]? = some oj → j ≠ i → el j dn = false → el j (blk ops i) = false → freeOp oj.op = true ∧ apart (ops := ops) oi oj = true) →
      T1 P n ops oi (fun S' H' => GT ops (i :: ac) G H' ∧ WG P n ops m (i :: dn) (i :: ac) G X S' H') S H → WG P n ops (m + 1) dn ac G X S H := by
  intro m
  induction m with
  | zero =>
    intro dn ac G S H fH hl hr hal hgt hmo _ w j oj hoj hrj
    obtain ⟨hi, hdi⟩ := ready_lt hr
    obtain ⟨hj, hdj⟩ := ready_lt hrj
    by_cases hji : j = i
    · subst hji
      rw [hoi] at hoj
      obtain rfl := Option.some.inj hoj
      exact w
    · exact (left_two hi hj hdi hdj hji hl).elim
  | succ m ih =>
    intro dn ac G S H fH hl hr hal hgt hmo hfr w j oj hoj hrj
    obtain ⟨hi, hdi⟩ := ready_lt hr
    obtain ⟨hj, hdj⟩ := ready_lt hrj
    by_cases hji : j = i
    · subst hji
      rw [hoi] at hoj
      obtain rfl := Option.some.inj hoj
      exact w
    · have hnb := not_blk hrj hdi hal
      obtain ⟨hf, hap⟩ := hfr j oj hoj hji hdj hnb
      have w1 : T1 P n ops oi (fun S' H' => T1 P n ops oj (fun S2 H2 => GT ops (j :: i :: ac) G H2 ∧ WG P n ops m (j :: i :: dn) (j :: i :: ac) G X S2 H2) S' H') S H :=
        T1_mono (fun S' H' y => y.2 j oj hoj (ready_more hrj hji)) w
      have w2 := swap_freeG hf hap fH w1
      have w3 : T1 P n ops oj (fun S' H' => Fin H' ∧ Ext H H' ∧ T1 P n ops oi (fun S2 H2 => GT ops (j :: i :: ac) G H2 ∧ WG P n ops m (j :: i :: dn) (j :: i :: ac) G X S2 H2) S' H') S H := by
        exact T1_mono (fun S' H' y => ⟨y.1, y.2.1, y.2.2⟩) (T1_fin w2 fH)
      refine T1_mono ?_ w3
      rintro S' H' ⟨f', hE, y⟩
      have hpd : ∀ k, el k (j :: i :: dn) = el k (i :: j :: dn) := fun k => by simp only [el_cons]; cases (k == j) <;> cases (k == i) <;> rfl
      have hpa : ∀ k, el k (j :: i :: ac) = true → el k (i :: j :: ac) = true := fun k => by
        simp only [el_cons, Bool.or_eq_true]
        rintro (h | h | h)
        · exact .inr (.inl h)
        · exact .inl h
        · exact .inr (.inr h)
      have hal' : ∀ k, el k (blk ops i) = true → el k (j :: dn) = false := fun k hk => by
        simp only [el_cons, hal k hk, Bool.or_false]
        cases hkj : (k == j) with
        | false => rfl
        | true => rw [beq_iff_eq] at hkj; subst hkj; rw [hk] at hnb; cases hnb
      have hgt' : GT ops (j :: ac) G H' := fun g hg2 a => hmo g hg2 H H' hE (hgt g hg2 (alive_less (fun k hk => by simp [el_cons, hk]) a))
      refine ⟨hgt', ?_⟩
      refine ih (j :: dn) (j :: ac) G S' H' f' (left_cons hj hdj hl) (ready_more hr (fun e => hji e.symm)) hal' hgt' hmo ?_ (T1_mono (fun S2 H2 z => ⟨GT_more hpa z.1, WG_perm m _ _ _ _ hpd hpa _ _ z.2⟩) y)
      intro k ok hok hki hdk hbk
      exact hfr k ok hok hki (by simp only [el_cons, Bool.or_eq_false_iff] at hdk; exact hdk.2) hbk
def okH (ops : Array Oper) (dn : List Nat) (i : Nat) : Bool :=
  ready ops dn i && (blk ops i).all (fun k => !el k dn) &&
  match ops[i]? with
  | some oi => (List.range ops.size).all fun j => j == i || el j dn || el j (blk ops i) || (match ops[j]? with | some oj => freeOp oj.op && apart (ops := ops) oi oj | none => true)
  | none => false
end
section
variable {P : Program} {n : Nat} {ops : Array Oper} {i : Nat} {d : Option Tmp} {op : Op} {ty : TypeId} {ps : String} {af : Array Edge} {S : Sl} {L : Pv} {h : AH} {mask : List Bool} {X : Sl → AH → Prop} {dn ac : List Nat}
theorem dw_effH {j : Nat} {want t : Bool} (hoi : ops[i]? = some ⟨d, op, ty, ps, af, some (j, want)⟩) (hok : okH ops dn i = true)
    (ht : ev n S (.tmp (((ops[j]?).bind (·.dst)).getD n)) = .bool t) (hb : t = want) (w : wpL P n ops [⟨d, op, ty, ps, af, none⟩] (fun S' L' h' => Ext (wl h (rmM mask L)) (wl h' (rmM mask L')) ∧ Dw P n ops mask X (i :: dn) (i :: ac) S' L' h') (fun _ _ _ _ => False) S L h) : Dw P n ops mask X dn ac S L h := by
  intro V G hG
  unfold okH at hok
  rw [hoi] at hok
  simp only [Bool.and_eq_true] at hok
  obtain ⟨⟨hr, hbl⟩, hap⟩ := hok
  obtain ⟨m, hm⟩ := left_pos hr
  obtain ⟨hi, hdi⟩ := ready_lt hr
  rw [hm]
  refine take_anyG hoi m dn ac G S (wl h L) (fin_wl V) hm hr ?_ ?_ (fun g hg => (hG g hg).2.1) ?_ ?_
  · intro x hx
    have := List.all_eq_true.1 hbl x ((el_mem _ _).1 hx)
    simpa using this
  · intro g hg _
    exact (hG g hg).2.1 _ _ (ext_rm V) (hG g hg).2.2
  · intro j oj hoj hji hdj hbj
    have hjl : j < ops.size := (Array.getElem?_eq_some_iff.1 hoj).1
    have := List.all_eq_true.1 hap j (by simpa using hjl)
    rw [hoj, hdj, hbj] at this
    simp only [Bool.or_false, Bool.or_eq_true, beq_iff_eq, Bool.and_eq_true] at this
    exact this.resolve_left hji
  · refine ⟨some t, by rw [ht]; rfl, fun _ => ?_, fun hn => absurd (congrArg some hb) hn⟩
    show opW P n ⟨d, op, ty, ps, af, none⟩ S (wl h L) _ noE
    refine opW_mono ?_ ?_ (w V)
    · rintro v H ⟨L', h', rfl, V', hE, hD⟩
      have hG' : ∀ g ∈ G, ((∀ H, g.2 H) ∨ (isLd ops g.1 = true ∧ el g.1 (i :: dn) = true)) ∧ (∀ H1 H2, Ext H1 H2 → g.2 H1 → g.2 H2) ∧ g.2 (wl h' (rmM mask L')) := by
        intro g hg
        obtain ⟨h1, h2, h3⟩ := hG g hg
        exact ⟨h1.imp id (fun e => ⟨e.1, by simp [el_cons, e.2]⟩), h2, h2 _ _ hE h3⟩
      refine ⟨fun g hg _ => (hG' g hg).2.1 _ _ (ext_rm V') (hG' g hg).2.2, ?_⟩
      have := hD V' G hG'
      rw [left_cons hi hdi hm] at this
      exact this
    · rintro v H ⟨L', h', rfl, V', y⟩; exact y
theorem dw_lastH {j : Nat} {want t : Bool} (hoi : ops[i]? = some ⟨d, op, ty, ps, af, some (j, want)⟩) (hok : okH ops dn i = true) (hl : okL ops dn i = true)
    (ht : ev n S (.tmp (((ops[j]?).bind (·.dst)).getD n)) = .bool t) (hb : t = want) (w : wpL P n ops [⟨d, op, ty, ps, af, none⟩] (fun S' L' h' => Dw P n ops mask X (i :: dn) (i :: ac) S' L' h') (fun _ _ _ _ => False) S L h) : Dw P n ops mask X dn ac S L h := by
  intro V G hG
  unfold okH at hok
  rw [hoi] at hok
  simp only [Bool.and_eq_true] at hok
  obtain ⟨⟨hr, hbl⟩, hap⟩ := hok
  obtain ⟨m, hm⟩ := left_pos hr
  obtain ⟨hi, hdi⟩ := ready_lt hr
  rw [hm]
  refine take_anyG hoi m dn ac G S (wl h L) (fin_wl V) hm hr ?_ ?_ (fun g hg => (hG g hg).2.1) ?_ ?_
  · intro x hx
    have := List.all_eq_true.1 hbl x ((el_mem _ _).1 hx)
    simpa using this
  · intro g hg _
    exact (hG g hg).2.1 _ _ (ext_rm V) (hG g hg).2.2
  · intro j oj hoj hji hdj hbj
    have hjl : j < ops.size := (Array.getElem?_eq_some_iff.1 hoj).1
    have := List.all_eq_true.1 hap j (by simpa using hjl)
    rw [hoj, hdj, hbj] at this
    simp only [Bool.or_false, Bool.or_eq_true, beq_iff_eq, Bool.and_eq_true] at this
    exact this.resolve_left hji
  · refine ⟨some t, by rw [ht]; rfl, fun _ => ?_, fun hn => absurd (congrArg some hb) hn⟩
    show opW P n ⟨d, op, ty, ps, af, none⟩ S (wl h L) _ noE
    refine opW_mono ?_ ?_ (w V)
    · rintro v H ⟨L', h', rfl, V', hD⟩
      -- the facts that are still asked hold everywhere
      have hdead : ∀ g ∈ G, (∀ H, g.2 H) ∨ ¬ alive ops (i :: ac) g.1 := by
        intro g hg
        rcases (hG g hg).1 with h1 | ⟨h1, h2⟩
        · exact .inl h1
        · right
          intro a
          have := List.all_eq_true.1 hl g.1 ((el_mem _ _).1 h2)
          rw [h1] at this
          simp only [Bool.not_true, Bool.false_or] at this
          have := a i this
          simp [el_cons] at this
      refine ⟨fun g hg a => ((hdead g hg).resolve_right (fun n => n a)) _, ?_⟩
      have hall : ∀ (m : Nat) (dn' ac' : List Nat) (S' : Sl) (H' : AH), (∀ k, el k (i :: ac) = true → el k ac' = true) → WG P n ops m dn' ac' [] X S' H' → WG P n ops m dn' ac' G X S' H' := by
        intro m
        induction m with
        | zero => intro dn' ac' S' H' _ w; exact w
        | succ m ih =>
          intro dn' ac' S' H' hsub w j oj hoj hrj
          refine T1_mono (fun S2 H2 y => ⟨fun g hg a => ?_, ih _ _ _ _ (fun k hk => by simp [el_cons, hsub k hk]) y.2⟩) (w j oj hoj hrj)
          exact ((hdead g hg).resolve_right (fun n => n (alive_less (fun k hk => by simp [el_cons, hsub k hk]) a))) _
      have := hD V' [] (fun g hg => by cases hg)
      rw [left_cons hi hdi hm] at this
      exact hall m _ _ _ _ (fun _ h => h) this
    · rintro v H ⟨L', h', rfl, V', y⟩; exact y
end
end Go.HL
/- Walks of the laws of rod: the chapter's examples hold. Conditions: as each theorem states. -/
namespace Go.Proofs.Ythphpbdmbmiaiaa
open Go Go.HL Go.Proofs Go.Wx Go.Rd
section
variable [Lvl]
set_option maxRecDepth 100000
theorem m0_hand : checkHandM mach0 ⟨[0, 1], []⟩ = 0 := by decide +kernel
theorem m0_lifts : liftsL mach0 ⟨[0, 1], []⟩ = [4, 3, 1, 0] := by decide +kernel
theorem m0_force : forceV mach0 ⟨[0, 1], []⟩ = 9 := by decide +kernel
theorem m0_hand2 : checkHandM mach0 ⟨[], [0]⟩ = 0 := by decide +kernel
theorem m0_chart : chartL mach0 [0] = [[0, 1, 2], [1]] := by decide +kernel
theorem m0_suspE : suspE mach0 (heard0 [0]) = 0 := by decide +kernel
theorem m0_suspL : suspL mach0 (heard0 [0]) = [1, 9] := by decide +kernel
theorem m0_testE : testE mach0 (heard0 [0]) = 0 := by decide +kernel
theorem m0_testN : testN mach0 (heard0 [0]) = 1 := by decide +kernel
theorem m0_testB : (testA mach0 (heard0 [0])).buttons = [1] := by decide +kernel
theorem m0_testO : (testA mach0 (heard0 [0])).on = [] := by decide +kernel
theorem m0_test : testA mach0 (heard0 [0]) = ⟨[1], []⟩ := by
  have h1 := m0_testB
  have h2 := m0_testO
  cases h : testA mach0 (heard0 [0]) with
  | mk b o => rw [h] at h1 h2; simp only at h1 h2; rw [h1, h2]
theorem hlen0 (l : List Int) (h : l.length < 2 ^ 40) : HLen (heard0 l) := ⟨by show 1 < 2 ^ 40; decide, fun x hx => by simp [heard0] at hx; subst hx; exact ⟨by show 1 < 2 ^ 40; decide, by show 0 < 2 ^ 40; decide, h⟩⟩
theorem rod_sounding (hph : Lvl.ph = true) (h : AH) : FnT Try.prog 28 #[] h (fun v _ => v = .bool true) := by
  have w0 : mach0.weights.length < 2 ^ 40 := by decide
  refine call_body Try.func28 rfl Try.ntmps28 rfl ?_
  refine xp_seq ?_
  refine xp_region rfl ?_
  refine op_pure (pv_assign (v := .bool _) rfl) ?_
  refine xp_seq ?_
  refine xp_region rfl ?_
  refine op_fn (caps := []) (vs := []) rfl rfl rfl (machine_ok h) ?_
  rintro _ h1 E1 ⟨AB1, AQ1, AL1, AW1, cB1, cQ1, cL1, cW1, rfl, M1⟩
  refine op_buildSlice (zc := [_]) (vs := [(0, .int .i64 _), (1, .int .i64 _)]) (cs := [_, _]) rfl rfl rfl rfl rfl rfl rfl fun b14 hb14 => ?_
  refine wp_norm [_] rfl ?_
  refine wp_pub 0 rfl rfl ?_
  intro h2 E2 p2
  refine wp_norm [_] rfl ?_
  refine op_fn (caps := []) (vs := [.slice _ _ _]) rfl rfl rfl (pressed_ok [0, 1] _ _ h2) ?_
  rintro _ h3 E3 rfl
  have R2 : Row h2 1 intC (some ⟨b14, 0, none⟩) [0, 1] := row_of_block (enc := intC) (m := 1) (l := [0, 1]) (fun _ _ => rfl) p2
  have H1 := Lifts_ok hph mach0 ⟨[0, 1], []⟩ AB1 AQ1 AL1 AW1 (some ⟨b14, 0, none⟩) none cB1 cQ1 cL1 cW1 2 0 h3 (M1.ext (Ext.trans E2 E3)) ⟨R2.ext E3, row_nil _ _⟩ w0 (by decide) (by decide)
  rw [m0_hand, m0_lifts] at H1
  refine op_fn (caps := []) (vs := [.agg #[.int .i64 _, .int .i64 _, .int .i64 _, .int .i64 _, .int .i64 _, .slice _ _ _, .slice _ _ _, .slice _ _ _, .slice _ _ _], .agg #[.slice _ _ _, .slice _ _ _]]) rfl rfl rfl (H1) ?_
  rintro _ h4 E4 ⟨_, rfl, A4, c4, rfl, S4⟩
  refine op_pure (pv_move (v := .tuple #[.slice _ _ _, .int .i64 _]) rfl) ?_
  refine op_pure (pv_of (v := .slice _ _ _) rfl) ?_
  refine op_pure (pv_of (v := .int .i64 _) rfl) ?_
  refine op_pure (pv_assign (v := .slice _ _ _) rfl) ?_
  refine op_pure (pv_assign (v := .int .i64 _) rfl) ?_
  refine xp_seq ?_
  refine xp_region rfl ?_
  refine op_fn (caps := []) (vs := []) rfl rfl rfl (machine_ok h4) ?_
  rintro _ h5 E5 ⟨AB2, AQ2, AL2, AW2, cB2, cQ2, cL2, cW2, rfl, M2⟩
  refine op_buildSlice (zc := [_]) (vs := [(0, .int .i64 _), (1, .int .i64 _)]) (cs := [_, _]) rfl rfl rfl rfl rfl rfl rfl fun b21 hb21 => ?_
  refine wp_norm [_, _] rfl ?_
  refine wp_pub 1 rfl rfl ?_
  intro h6 E6 p6
  refine wp_norm [_, _] rfl ?_
  refine op_fn (caps := []) (vs := [.slice _ _ _]) rfl rfl rfl (pressed_ok [0, 1] _ _ h6) ?_
  rintro _ h7 E7 rfl
  have R6 : Row h6 1 intC (some ⟨b21, 0, none⟩) [0, 1] := row_of_block (enc := intC) (m := 1) (l := [0, 1]) (fun _ _ => rfl) p6
  have H2 := Force_ok hph mach0 ⟨[0, 1], []⟩ AB2 AQ2 AL2 AW2 (some ⟨b21, 0, none⟩) none cB2 cQ2 cL2 cW2 2 0 h7 (M2.ext (Ext.trans E6 E7)) ⟨R6.ext E7, row_nil _ _⟩ w0 (by decide) (by decide)
  rw [m0_hand, m0_force] at H2
  refine op_fn (caps := []) (vs := [.agg #[.int .i64 _, .int .i64 _, .int .i64 _, .int .i64 _, .int .i64 _, .slice _ _ _, .slice _ _ _, .slice _ _ _, .slice _ _ _], .agg #[.slice _ _ _, .slice _ _ _]]) rfl rfl rfl (H2) ?_
  rintro _ h8 E8 rfl
  refine op_pure (pv_move (v := .tuple #[.int .i64 _, .int .i64 _]) rfl) ?_
  refine op_pure (pv_of (v := .int .i64 _) rfl) ?_
  refine op_pure (pv_of (v := .int .i64 _) rfl) ?_
  refine op_pure (pv_assign (v := .int .i64 _) rfl) ?_
  refine op_pure (pv_assign (v := .int .i64 _) rfl) ?_
  refine xp_seq ?_
  refine xp_region rfl ?_
  refine op_fn (caps := []) (vs := []) rfl rfl rfl (machine_ok h8) ?_
  rintro _ h9 E9 ⟨AB3, AQ3, AL3, AW3, cB3, cQ3, cL3, cW3, rfl, M3⟩
  refine op_buildSlice (zc := [_]) (vs := [(0, .int .i64 _)]) (cs := [_]) rfl rfl rfl rfl rfl rfl rfl fun b28 hb28 => ?_
  refine wp_norm [_, _, _] rfl ?_
  refine wp_pub 2 rfl rfl ?_
  intro h10 E10 p10
  refine wp_norm [_, _, _] rfl ?_
  have R10 : Row h10 1 intC (some ⟨b28, 0, none⟩) [0] := row_of_block (enc := intC) (m := 1) (l := [0]) (fun _ _ => rfl) p10
  have H3 := Chart_ok hph mach0 [0] AB3 AQ3 AL3 AW3 (some ⟨b28, 0, none⟩) cB3 cQ3 cL3 cW3 1 h10 (M3.ext E10) R10 w0 (by decide)
  rw [m0_hand2, m0_chart] at H3
  refine op_fn (caps := []) (vs := [.agg #[.int .i64 _, .int .i64 _, .int .i64 _, .int .i64 _, .int .i64 _, .slice _ _ _, .slice _ _ _, .slice _ _ _, .slice _ _ _], .slice _ _ _]) rfl rfl rfl (H3) ?_
  rintro _ h11 E11 ⟨_, rfl, S11⟩
  obtain ⟨cs11, A11, c11, rfl, R11, L11⟩ := SlX.els S11
  refine op_pure (pv_move (v := .tuple #[.slice _ _ _, .int .i64 _]) rfl) ?_
  refine op_pure (pv_of (v := .slice _ _ _) rfl) ?_
  refine op_pure (pv_of (v := .int .i64 _) rfl) ?_
  refine op_pure (pv_assign (v := .slice _ _ _) rfl) ?_
  refine op_pure (pv_assign (v := .int .i64 _) rfl) ?_
  refine xp_seq ?_
  refine xp_region rfl ?_
  refine op_fn (caps := []) (vs := []) rfl rfl rfl (machine_ok h11) ?_
  rintro _ h12 E12 ⟨AB4, AQ4, AL4, AW4, cB4, cQ4, cL4, cW4, rfl, M4⟩
  refine op_buildSlice (zc := [_]) (vs := [(0, .int .i64 _)]) (cs := [_]) rfl rfl rfl rfl rfl rfl rfl fun b34 hb34 => ?_
  refine wp_norm [_, _, _, _] rfl ?_
  refine wp_pub 3 rfl rfl ?_
  intro h13 E13 p13
  refine wp_norm [_, _, _, _] rfl ?_
  have R13 : Row h13 1 intC (some ⟨b34, 0, none⟩) [0] := row_of_block (enc := intC) (m := 1) (l := [0]) (fun _ _ => rfl) p13
  refine op_fn (caps := []) (vs := [.slice _ _ _]) rfl rfl rfl (sounded_ok [0] _ _ h13 R13) ?_
  rintro _ h14 E14 ⟨UA4, cU4, cs4, rfl, RU4, EU4⟩
  have H4 := Suspects_ok hph mach0 (heard0 [0]) (hlen0 _ (by decide)) AB4 AQ4 AL4 AW4 UA4 cB4 cQ4 cL4 cW4 cU4 cs4 h14 (M4.ext (Ext.trans E13 E14)) w0 RU4 EU4
  rw [m0_suspE, m0_suspL] at H4
  refine op_fn (caps := []) (vs := [.agg #[.int .i64 _, .int .i64 _, .int .i64 _, .int .i64 _, .int .i64 _, .slice _ _ _, .slice _ _ _, .slice _ _ _, .slice _ _ _], .slice _ _ _]) rfl rfl rfl (H4) ?_
  rintro _ h15 E15 ⟨_, rfl, A15, c15, rfl, S15⟩
  refine op_pure (pv_move (v := .tuple #[.slice _ _ _, .int .i64 _]) rfl) ?_
  refine op_pure (pv_of (v := .slice _ _ _) rfl) ?_
  refine op_pure (pv_of (v := .int .i64 _) rfl) ?_
  refine op_pure (pv_assign (v := .slice _ _ _) rfl) ?_
  refine op_pure (pv_assign (v := .int .i64 _) rfl) ?_
  refine xp_seq ?_
  refine xp_region rfl ?_
  refine op_fn (caps := []) (vs := []) rfl rfl rfl (machine_ok h15) ?_
  rintro _ h16 E16 ⟨AB5, AQ5, AL5, AW5, cB5, cQ5, cL5, cW5, rfl, M5⟩
  refine op_buildSlice (zc := [_]) (vs := [(0, .int .i64 _)]) (cs := [_]) rfl rfl rfl rfl rfl rfl rfl fun b41 hb41 => ?_
  refine wp_norm [_, _, _, _, _] rfl ?_
  refine wp_pub 4 rfl rfl ?_
  intro h17 E17 p17
  refine wp_norm [_, _, _, _, _] rfl ?_
  have R17 : Row h17 1 intC (some ⟨b41, 0, none⟩) [0] := row_of_block (enc := intC) (m := 1) (l := [0]) (fun _ _ => rfl) p17
  refine op_fn (caps := []) (vs := [.slice _ _ _]) rfl rfl rfl (sounded_ok [0] _ _ h17 R17) ?_
  rintro _ h18 E18 ⟨UA5, cU5, cs5, rfl, RU5, EU5⟩
  have H5 := Test_ok hph mach0 (heard0 [0]) (hlen0 _ (by decide)) AB5 AQ5 AL5 AW5 UA5 cB5 cQ5 cL5 cW5 cU5 cs5 h18 (M5.ext (Ext.trans E17 E18)) w0 RU5 EU5
  rw [m0_testE, m0_testN, m0_test] at H5
  refine op_fn (caps := []) (vs := [.agg #[.int .i64 _, .int .i64 _, .int .i64 _, .int .i64 _, .int .i64 _, .slice _ _ _, .slice _ _ _, .slice _ _ _, .slice _ _ _], .slice _ _ _]) rfl rfl rfl (H5) ?_
  rintro _ h19 E19 ⟨_, rfl, V19⟩
  obtain ⟨HA, OA, cH, cO, rfl, RH⟩ := HandV.open V19
  refine op_pure (pv_move (v := .tuple #[.agg #[.slice _ _ _, .slice _ _ _], .int .i64 _, .int .i64 _]) rfl) ?_
  refine op_pure (pv_of (v := .agg #[.slice _ _ _, .slice _ _ _]) rfl) ?_
  refine op_pure (pv_of (v := .int .i64 _) rfl) ?_
  refine op_pure (pv_of (v := .int .i64 _) rfl) ?_
  refine op_alloc (cs := [_, _]) rfl rfl fun b9 hb9 => ?_
  refine wp_norm [_, _, _, _, _, _] rfl ?_
  refine op_storeP 5 (v := .agg #[.slice _ _ _, .slice _ _ _]) (vs := [_, _]) (c' := [_, _]) rfl rfl rfl rfl rfl rfl rfl rfl rfl ?_
  refine wp_norm [_, _, _, _, _, _] rfl ?_
  refine op_pure (pv_assign (v := .int .i64 _) rfl) ?_
  refine op_pure (pv_assign (v := .int .i64 _) rfl) ?_
  refine xp_seq ?_
  refine xp_dw [] rfl rfl rfl ?_
  refine dw_pure (i := 0) rfl (by decide +kernel) (pv_move (v := .int .i64 _) rfl) ?_
  refine dw_pure (i := 1) rfl (by decide +kernel) (pv_of (v := .bool _) rfl) ?_
  refine dw_pure (i := 2) rfl (by decide +kernel) (pv_move (v := .bool _) rfl) ?_
  refine dw_pureG (i := 3) rfl (by decide +kernel) rfl rfl (pv_move (v := .int .i64 _) rfl) ?_
  refine dw_pureG (i := 4) rfl (by decide +kernel) rfl rfl (pv_of (v := .bool _) rfl) ?_
  refine dw_pure (i := 5) rfl (by decide +kernel) (pv_pickT rfl rfl (v := .bool _) rfl) ?_
  refine dw_pure (i := 6) rfl (by decide +kernel) (pv_move (v := .bool _) rfl) ?_
  refine dw_pureG (i := 7) rfl (by decide +kernel) rfl rfl (pv_move (v := .int .i64 _) rfl) ?_
  refine dw_pureG (i := 8) rfl (by decide +kernel) rfl rfl (pv_of (v := .bool _) rfl) ?_
  refine dw_pure (i := 9) rfl (by decide +kernel) (pv_pickT rfl rfl (v := .bool _) rfl) ?_
  refine dw_pure (i := 10) rfl (by decide +kernel) (pv_move (v := .bool _) rfl) ?_
  refine dw_pureG (i := 11) rfl (by decide +kernel) rfl rfl (pv_move (v := .int .i64 _) rfl) ?_
  refine dw_pureG (i := 12) rfl (by decide +kernel) rfl rfl (pv_of (v := .bool _) rfl) ?_
  refine dw_pure (i := 13) rfl (by decide +kernel) (pv_pickT rfl rfl (v := .bool _) rfl) ?_
  refine dw_pure (i := 14) rfl (by decide +kernel) (pv_move (v := .bool _) rfl) ?_
  refine dw_pureG (i := 15) rfl (by decide +kernel) rfl rfl (pv_move (v := .int .i64 _) rfl) ?_
  refine dw_pureG (i := 16) rfl (by decide +kernel) rfl rfl (pv_of (v := .bool _) rfl) ?_
  refine dw_pure (i := 17) rfl (by decide +kernel) (pv_pickT rfl rfl (v := .bool _) rfl) ?_
  refine dw_pure (i := 18) rfl (by decide +kernel) (pv_move (v := .bool _) rfl) ?_
  refine dw_pureG (i := 19) rfl (by decide +kernel) rfl rfl (pv_move (v := .int .i64 _) rfl) ?_
  refine dw_pureG (i := 20) rfl (by decide +kernel) rfl rfl (pv_of (v := .bool _) rfl) ?_
  refine dw_pure (i := 21) rfl (by decide +kernel) (pv_pickT rfl rfl (v := .bool _) rfl) ?_
  refine dw_pure (i := 22) rfl (by decide +kernel) (pv_move (v := .bool _) rfl) ?_
  refine dw_pureG (i := 23) rfl (by decide +kernel) rfl rfl (pv_move (v := .int .i64 _) rfl) ?_
  refine dw_pureG (i := 24) rfl (by decide +kernel) rfl rfl (pv_of (v := .bool _) rfl) ?_
  refine dw_pure (i := 25) rfl (by decide +kernel) (pv_pickT rfl rfl (v := .bool _) rfl) ?_
  refine dw_pure (i := 26) rfl (by decide +kernel) (pv_move (v := .bool _) rfl) ?_
  refine dw_pureG (i := 27) rfl (by decide +kernel) rfl rfl (pv_move (v := .slice _ _ _) rfl) ?_
  refine dw_lastH (i := 28) rfl (by decide +kernel) (by decide +kernel) rfl rfl ?_
  refine op_buildSlice (zc := [_]) (vs := [(0, .int .i64 _), (1, .int .i64 _), (2, .int .i64 _), (3, .int .i64 _)]) (cs := [_, _, _, _]) rfl rfl rfl rfl rfl rfl rfl fun b75 hb75 => ?_
  refine dw_norm [_, _, _, _, _, _, _] rfl ?_
  refine dw_pub 6 rfl ?_
  intro g1 F1 q1
  refine dw_norm [_, _, _, _, _, _, _] rfl ?_
  refine dw_lastH (i := 29) rfl (by decide +kernel) (by decide +kernel) rfl rfl ?_
  refine op_fn (caps := []) (vs := [.slice _ _ _, .slice _ _ _]) rfl rfl rfl (sameInts_ok [4, 3, 1, 0] [4, 3, 1, 0] _ _ _ _ g1 (S4.ext (Ext.trans (Ext.trans (Ext.trans (Ext.trans (Ext.trans (Ext.trans (Ext.trans (Ext.trans (Ext.trans (Ext.trans (Ext.trans (Ext.trans (Ext.trans (Ext.trans (Ext.trans E5 E6) E7) E8) E9) E10) E11) E12) E13) E14) E15) E16) E17) E18) E19) F1)) (row_of_block (enc := intC) (m := 1) (l := [4, 3, 1, 0]) (fun _ _ => rfl) q1) (by decide)) ?_
  rintro _ g2 F2 rfl
  refine dw_pure (i := 30) rfl (by decide +kernel) (pv_pickT rfl rfl (v := .bool _) rfl) ?_
  refine dw_pure (i := 31) rfl (by decide +kernel) (pv_move (v := .bool _) rfl) ?_
  refine dw_pureG (i := 32) rfl (by decide +kernel) rfl rfl (pv_move (v := .slice _ _ _) rfl) ?_
  refine dw_lastH (i := 33) rfl (by decide +kernel) (by decide +kernel) rfl rfl ?_
  refine op_buildSlice (zc := [_]) (vs := [(0, .int .i64 _), (1, .int .i64 _), (2, .int .i64 _)]) (cs := [_, _, _]) rfl rfl rfl rfl rfl rfl rfl fun b80 hb80 => ?_
  refine dw_norm [_, _, _, _, _, _, _, _] rfl ?_
  refine dw_lastH (i := 34) rfl (by decide +kernel) (by decide +kernel) rfl rfl ?_
  refine op_buildSlice (zc := [_]) (vs := [(0, .int .i64 _)]) (cs := [_]) rfl rfl rfl rfl rfl rfl rfl fun b81 hb81 => ?_
  refine dw_norm [_, _, _, _, _, _, _, _, _] rfl ?_
  refine dw_lastH (i := 35) rfl (by decide +kernel) (by decide +kernel) rfl rfl ?_
  refine op_buildSlice (zc := [_]) (vs := [(0, .slice _ _ _), (1, .slice _ _ _)]) (cs := [_, _]) rfl rfl rfl rfl rfl rfl rfl fun b82 hb82 => ?_
  refine dw_norm [_, _, _, _, _, _, _, _, _, _] rfl ?_
  refine dw_pub 7 rfl ?_
  intro g3 F3 q3
  refine dw_norm [_, _, _, _, _, _, _, _, _, _] rfl ?_
  refine dw_pub 8 rfl ?_
  intro g4 F4 q4
  refine dw_norm [_, _, _, _, _, _, _, _, _, _] rfl ?_
  refine dw_pub 9 rfl ?_
  intro g5 F5 q5
  refine dw_norm [_, _, _, _, _, _, _, _, _, _] rfl ?_
  have RL : Row g5 1 id (some ⟨b82, 0, none⟩) [[.slice (some ⟨b80, 0, none⟩) 3 3], [.slice (some ⟨b81, 0, none⟩) 1 1]] := row_of_block (enc := id) (m := 1) (l := [[.slice (some ⟨b80, 0, none⟩) 3 3], [.slice (some ⟨b81, 0, none⟩) 1 1]]) (fun x hx => by simp at hx; rcases hx with rfl | rfl <;> rfl) q5
  have EL : Els g5 TL [[0, 1, 2], [1]] [[.slice (some ⟨b80, 0, none⟩) 3 3], [.slice (some ⟨b81, 0, none⟩) 1 1]] := by
    refine ⟨rfl, fun i x c h1 h2 => ?_⟩
    match i, h1, h2 with
    | 0, h1, h2 => cases h1; cases h2; exact ⟨_, rfl, some ⟨b80, 0, none⟩, 3, rfl, (row_of_block (enc := intC) (m := 1) (l := [0, 1, 2]) (fun _ _ => rfl) q3).ext (Ext.trans F4 F5)⟩
    | 1, h1, h2 => cases h1; cases h2; exact ⟨_, rfl, some ⟨b81, 0, none⟩, 1, rfl, (row_of_block (enc := intC) (m := 1) (l := [1]) (fun _ _ => rfl) q4).ext F5⟩
    | i + 2, h1, h2 => simp at h1
  refine dw_lastH (i := 36) rfl (by decide +kernel) (by decide +kernel) rfl rfl ?_
  refine op_fn (caps := []) (vs := [.slice _ _ _, .slice _ _ _]) rfl rfl rfl (sameLists_ok [[0, 1, 2], [1]] [[0, 1, 2], [1]] _ _ _ _ cs11 _ g5 (R11.ext (Ext.trans (Ext.trans (Ext.trans (Ext.trans (Ext.trans (Ext.trans (Ext.trans (Ext.trans (Ext.trans (Ext.trans (Ext.trans (Ext.trans E12 E13) E14) E15) E16) E17) E18) E19) F1) F2) F3) F4) F5)) (L11.ext TL.mono (Ext.trans (Ext.trans (Ext.trans (Ext.trans (Ext.trans (Ext.trans (Ext.trans (Ext.trans (Ext.trans (Ext.trans (Ext.trans (Ext.trans E12 E13) E14) E15) E16) E17) E18) E19) F1) F2) F3) F4) F5)) RL EL (by decide) (by decide)) ?_
  rintro _ g6 F6 rfl
  refine dw_pure (i := 37) rfl (by decide +kernel) (pv_pickT rfl rfl (v := .bool _) rfl) ?_
  refine dw_pure (i := 38) rfl (by decide +kernel) (pv_move (v := .bool _) rfl) ?_
  refine dw_pureG (i := 39) rfl (by decide +kernel) rfl rfl (pv_move (v := .slice _ _ _) rfl) ?_
  refine dw_lastH (i := 40) rfl (by decide +kernel) (by decide +kernel) rfl rfl ?_
  refine op_buildSlice (zc := [_]) (vs := [(0, .int .i64 _), (1, .int .i64 _)]) (cs := [_, _]) rfl rfl rfl rfl rfl rfl rfl fun b87 hb87 => ?_
  refine dw_norm [_, _, _, _, _, _, _, _, _, _, _] rfl ?_
  refine dw_pub 10 rfl ?_
  intro g7 F7 q7
  refine dw_norm [_, _, _, _, _, _, _, _, _, _, _] rfl ?_
  refine dw_lastH (i := 41) rfl (by decide +kernel) (by decide +kernel) rfl rfl ?_
  refine op_fn (caps := []) (vs := [.slice _ _ _, .slice _ _ _]) rfl rfl rfl (sameInts_ok [1, 9] [1, 9] _ _ _ _ g7 (S15.ext (Ext.trans (Ext.trans (Ext.trans (Ext.trans (Ext.trans (Ext.trans (Ext.trans (Ext.trans (Ext.trans (Ext.trans E16 E17) E18) E19) F1) F2) F3) F4) F5) F6) F7)) (row_of_block (enc := intC) (m := 1) (l := [1, 9]) (fun _ _ => rfl) q7) (by decide)) ?_
  rintro _ g8 F8 rfl
  refine dw_pure (i := 42) rfl (by decide +kernel) (pv_pickT rfl rfl (v := .bool _) rfl) ?_
  refine dw_pure (i := 43) rfl (by decide +kernel) (pv_move (v := .bool _) rfl) ?_
  refine dw_loadG (i := 44) rfl (by decide +kernel) rfl rfl ?_
  refine op_loadPA 5 (vs := [.slice _ _ _, .slice _ _ _]) rfl rfl rfl rfl rfl ?_
  refine dw_effH (i := 45) rfl (by decide +kernel) rfl rfl ?_
  refine op_buildSlice (zc := [_]) (vs := [(0, .int .i64 _)]) (cs := [_]) rfl rfl rfl rfl rfl rfl rfl fun b92 hb92 => ?_
  refine ⟨ext_new hb92 _, ?_⟩
  refine dw_norm [_, _, _, _, _, _, _, _, _, _, _, _] rfl ?_
  refine dw_pub 11 rfl ?_
  intro g9 F9 q9
  refine dw_norm [_, _, _, _, _, _, _, _, _, _, _, _] rfl ?_
  refine dw_effH (i := 46) rfl (by decide +kernel) rfl rfl ?_
  refine op_fn (caps := []) (vs := [.slice _ _ _]) rfl rfl rfl (pressed_ok [1] _ _ g9) ?_
  rintro _ g10 F10 rfl
  refine ⟨ext_wlm F10 _, ?_⟩
  refine dw_lastH (i := 47) rfl (by decide +kernel) (by decide +kernel) rfl rfl ?_
  refine op_fn (caps := []) (vs := [.agg _, .agg _]) rfl rfl rfl (sameHands_ok ⟨[1], []⟩ ⟨[1], []⟩ _ _ _ _ _ _ _ _ g10 (RH.ext (Ext.trans (Ext.trans (Ext.trans (Ext.trans (Ext.trans (Ext.trans (Ext.trans (Ext.trans (Ext.trans F1 F2) F3) F4) F5) F6) F7) F8) F9) F10)) ⟨(row_of_block (enc := intC) (m := 1) (l := [1]) (fun _ _ => rfl) q9).ext F10, row_nil _ _⟩ (by decide) (by decide)) ?_
  rintro _ g11 F11 rfl
  refine dw_pure (i := 48) rfl (by decide +kernel) (pv_pickT rfl rfl (v := .bool _) rfl) ?_
  refine dw_pure (i := 49) rfl (by decide +kernel) (pv_assign (v := .bool _) rfl) ?_
  refine dw_end rfl ?_
  refine xp_ret ?_
  refine res_list (vs := [_]) Try.results28 ⟨resV_tmp rfl rfl, trivial⟩ fun V => ?_
  exact ⟨(Ext.trans (Ext.trans (Ext.trans (Ext.trans (Ext.trans (Ext.trans (Ext.trans (Ext.trans (Ext.trans (Ext.trans (Ext.trans (Ext.trans (Ext.trans (Ext.trans (Ext.trans (Ext.trans (Ext.trans (Ext.trans (Ext.trans (Ext.trans (Ext.trans (Ext.trans (Ext.trans (Ext.trans (Ext.trans (Ext.trans (Ext.trans (Ext.trans (Ext.trans (Ext.trans E1 E2) E3) E4) E5) E6) E7) E8) E9) E10) E11) E12) E13) E14) E15) E16) E17) E18) E19) F1) F2) F3) F4) F5) F6) F7) F8) F9) F10) F11) (ext_wl V)), rfl⟩
end
end Go.Proofs.Ythphpbdmbmiaiaa
/- The own logic, part GQ: quotients and remainders of ints. Conditions: none. -/
namespace Go.HL
open Go
variable [Lvl]
section
variable {P : Program} {n : Nat} {d : Option Tmp} {ty : TypeId} {ps : String} {af : Array Edge} {S : Sl} {t u : TypeId} {x y : Operand}
theorem pv_remT {a b : Int} (hx : ev n S x = .int .i64 a) (hy : ev n S y = .int .i64 b) (hb : b ≠ 0) :
    pev P (execOp (ev n S) ⟨d, .binOp .rem t x y u, ty, ps, af, none⟩) = some (.value (.int .i64 (a.tmod b))) := by
  simp only [execOp, hx, hy, binOp, Op.intDiv, if_neg hb]
  rfl
theorem pv_quoT {a b c : Int} (hx : ev n S x = .int .i64 a) (hy : ev n S y = .int .i64 b) (hb : b ≠ 0) (hc : a.tdiv b = c) (h : -2 ^ 63 ≤ c ∧ c < 2 ^ 63) :
    pev P (execOp (ev n S) ⟨d, .binOp .quo t x y u, ty, ps, af, none⟩) = some (.value (.int .i64 c)) := by
  subst hc
  have e : IntKind.wrap .i64 (a.tdiv b) = a.tdiv b := IntWalk.i64_in _ ⟨by omega, by omega⟩
  simp only [execOp, hx, hy, binOp, Op.intDiv, if_neg hb, e]
  rfl
end
end Go.HL
/- Plain: other numbers of rods and levers, another order of pins. Conditions: none. -/
namespace Go.Rd
open Go Go.HL Go.Wx
variable [Lvl]
/-- Rods renamed by s. -/
def renL (s : Int → Int) (l : LinkP) : LinkP := ⟨s l.frm, s l.to, l.reg, l.lag⟩
structure RenR (s : Int → Int) (m m' : MachP) : Prop where
  rods : m'.rods = m.rods
  bd : ∀ r, 0 ≤ r → r < m.rods → 0 ≤ s r ∧ s r < m.rods
  btn : m'.buttons = m.buttons.map s
  links : m'.links = m.links.map (renL s)
/-- Renamed, and back. -/
structure Inv (s t : Int → Int) (n : Int) : Prop where
  sb : ∀ r, 0 ≤ r → r < n → 0 ≤ s r ∧ s r < n
  tb : ∀ r, 0 ≤ r → r < n → 0 ≤ t r ∧ t r < n
  ts : ∀ r, 0 ≤ r → r < n → t (s r) = r
  st : ∀ r, 0 ≤ r → r < n → s (t r) = r
end Go.Rd
/- Plain: sums in any order; rods that nothing turns. Conditions: none. -/
namespace Go.Rd
open Go Go.HL Go.Wx
variable [Lvl]
end Go.Rd
/- Plain: buttons that are pressed down less deep. Conditions: none. -/
namespace Go.Rd
open Go Go.HL Go.Wx
variable [Lvl]
end Go.Rd
/- Walks: machines and hands that are made of numbers, copies. Conditions: as each theorem states. -/
namespace Go.Proofs.Ythphpbdmbmiaiaa
open Go Go.HL Go.Proofs Go.Wx Go.Rd
section
variable [Lvl]
set_option maxRecDepth 100000
theorem tmod_gt (x : Int) {n : Int} (hn : 0 < n) : -n < x.tmod n := by
  by_cases h : 0 ≤ x
  · have := Int.tmod_nonneg n h; omega
  · obtain ⟨y, rfl⟩ : ∃ y, x = -y := ⟨-x, by omega⟩
    rw [Int.neg_tmod]
    have := Int.tmod_lt_of_pos y hn
    omega
def turnI (x n : Int) : Int := if n < 2 then 0 else (x.tmod n + n).tmod n
theorem turnI_bd (x n : Int) : 0 ≤ turnI x n ∧ (1 ≤ n → turnI x n < n) := by
  unfold turnI
  split
  · omega
  · rename_i h
    have h1 : -n < x.tmod n := tmod_gt x (by omega)
    have h2 : 0 ≤ x.tmod n + n := by omega
    exact ⟨Int.tmod_nonneg n h2, fun _ => Int.tmod_lt_of_pos _ (by omega)⟩
theorem turnI_ne {f d n : Int} (hn : 2 ≤ n) (h0 : 0 ≤ f ∧ f < n) (hd : 1 ≤ d ∧ d < n) : turnI (f + d) n ≠ f := by
  unfold turnI
  rw [if_neg (by omega)]
  rw [Int.tmod_eq_emod_of_nonneg (by omega : 0 ≤ f + d), Int.tmod_eq_emod_of_nonneg (by have := Int.emod_nonneg (f + d) (by omega : n ≠ 0); omega)]
  rw [Int.add_emod_right, Int.emod_emod]
  intro e
  by_cases h : f + d < n
  · rw [Int.emod_eq_of_lt (by omega) h] at e; omega
  · have : (f + d) % n = f + d - n := by
      rw [← Int.sub_emod_right (f + d) n, Int.emod_eq_of_lt (by omega) (by omega)]
    omega
theorem Turn_ok (x n : Int) (hn : n ≤ 2 ^ 40) (h : AH) : FnT Try.prog 71 #[.int .i64 x, .int .i64 n] h (fun v _ => v = .int .i64 (turnI x n)) := by
  refine call_body Try.func71 rfl Try.ntmps71 rfl ?_
  refine xp_seq ?_
  refine xp_region rfl ?_
  refine op_pure (pv_assign (v := .int .i64 _) rfl) ?_
  refine xp_seq ?_
  refine xp_seq ?_
  refine xp_region rfl ?_
  refine op_pure (pv_move (v := .int .i64 _) rfl) ?_
  refine op_pure (pv_of (v := .bool _) rfl) ?_
  refine xp_cond rfl (fun ht => ?_) (fun ht => ?_)
  · skip
    have ht' : n < 2 := of_decide_eq_true ht
    refine xp_seq ?_
    refine xp_region rfl ?_
    refine op_pure (pv_assign (v := .int .i64 _) rfl) ?_
    refine xp_ret ?_
    refine res_list (vs := [_]) Try.results71 ⟨resV_tmp rfl rfl, trivial⟩ fun V => ?_
    exact ⟨(ext_wl V), intE (by rw [turnI, if_pos ht'])⟩
  · skip
    have ht' : ¬ n < 2 := of_decide_eq_false ht
    have h1 : -n < x.tmod n := tmod_gt x (by omega)
    have h2 : x.tmod n < n := Int.tmod_lt_of_pos _ (by omega)
    refine xp_skip ?_
    refine xp_seq ?_
    refine xp_region rfl ?_
    refine op_pure (pv_move (v := .int .i64 _) rfl) ?_
    refine op_pure (pv_move (v := .int .i64 _) rfl) ?_
    refine op_pure (pv_remT rfl rfl (by omega)) ?_
    refine op_pure (pv_move (v := .int .i64 _) rfl) ?_
    refine op_pure (pv_arith rfl (by omega)) ?_
    refine op_pure (pv_move (v := .int .i64 _) rfl) ?_
    refine op_pure (pv_remT rfl rfl (by omega)) ?_
    refine op_pure (pv_assign (v := .int .i64 _) rfl) ?_
    refine xp_ret ?_
    refine res_list (vs := [_]) Try.results71 ⟨resV_tmp rfl rfl, trivial⟩ fun V => ?_
    exact ⟨(ext_wl V), intE (by rw [turnI, if_neg ht'])⟩
/-- A machine that is made of numbers. -/
structure Made (size pins links : Int) (m : MachP) : Prop where
  ok : MOK m
  rs : m.rods ≤ size
  ls : m.levers ≤ size
  bl : m.buttons.length ≤ 3
  pl : (m.pins.length : Int) ≤ pins
  ll : (m.links.length : Int) ≤ links
theorem mem_one {α : Type} {P : α → Prop} {l : List α} {z : α} (h : ∀ x ∈ l, P x) (hz : P z) : ∀ x ∈ l ++ [z], P x := fun x hx => by
  rcases List.mem_append.1 hx with hx | hx
  · exact h x hx
  · simp at hx; subst hx; exact hz
set_option maxHeartbeats 8000000 in
theorem MachineOf_ok (b x : Nat) (size pins links : Int) (hs : 1 ≤ size ∧ size ≤ 6) (hp : 0 ≤ pins ∧ pins ≤ 8) (hl : 0 ≤ links ∧ links ≤ 4) (h : AH) :
    FnM Try.prog (.func (.func 18) #[] ([] : List Value).toArray) [.pointer (some ⟨b, 0, none⟩), .int .i64 size, .int .i64 pins, .int .i64 links] h [some (b, .cells #[.int .u64 (x : Int)] 97 (0, 0))]
    (fun v h' M' => ∃ (x' : Nat) (m : MachP), M' = [some (b, .cells #[.int .u64 (x' : Int)] 97 (0, 0))] ∧ MachV h' m v ∧ Made size pins links m) := by
  refine fnM_body rfl rfl Try.func18 rfl Try.ntmps18 rfl ?_
  refine xp_seq ?_
  refine xp_region rfl ?_
  refine op_alloc (cs := [_, _, _, _, _, _, _, _, _]) rfl rfl fun b8 hb8 => ?_
  refine wp_norm [_, _] rfl ?_
  refine xp_seq ?_
  refine xp_region rfl ?_
  refine op_pure (pv_move (v := .pointer (some ⟨b, 0, none⟩)) rfl) ?_
  refine op_pure (pv_move (v := .int .i64 _) rfl) ?_
  refine op_pure (pv_min rfl rfl) ?_
  refine op_fnMM [] [_] [_] (vs := [.pointer _, .int .i64 _, .int .i64 _]) rfl rfl rfl ((Within_ok b x 1 (min size 6) (by omega) (by omega) (by omega) h)) ?_
  rintro _ h1 _ E1 ⟨x1, r, rfl, rfl, r1, r2⟩
  refine wp_norm [_, _] rfl ?_
  refine op_pure (pv_move (v := .pointer (some ⟨b, 0, none⟩)) rfl) ?_
  refine op_pure (pv_move (v := .int .i64 _) rfl) ?_
  refine op_pure (pv_min rfl rfl) ?_
  refine op_fnMM [] [_] [_] (vs := [.pointer _, .int .i64 _, .int .i64 _]) rfl rfl rfl ((Within_ok b x1 1 (min size 6) (by omega) (by omega) (by omega) h1)) ?_
  rintro _ h2 _ E2 ⟨x2, v, rfl, rfl, v1, v2⟩
  refine wp_norm [_, _] rfl ?_
  refine op_pure (pv_move (v := .pointer (some ⟨b, 0, none⟩)) rfl) ?_
  refine op_fnMM [] [_] [_] (vs := [.pointer _, .int .i64 _]) rfl rfl rfl ((Upto_ok b x2 2 (by omega) h2)) ?_
  rintro _ h3 _ E3 ⟨x3, g, rfl, rfl, g1, g2⟩
  refine wp_norm [_, _] rfl ?_
  refine op_pure (pv_move (v := .pointer (some ⟨b, 0, none⟩)) rfl) ?_
  refine op_fnMM [] [_] [_] (vs := [.pointer _, .int .i64 _, .int .i64 _]) rfl rfl rfl ((Within_ok b x3 2 12 (by omega) (by omega) (by omega) h3)) ?_
  rintro _ h4 _ E4 ⟨x4, t, rfl, rfl, t1, t2⟩
  refine wp_norm [_, _] rfl ?_
  refine op_pure (pv_build (zc := [_, _, _, _, _, _, _, _, _]) (vs := [(0, .int .i64 _), (1, .int .i64 _), (2, .int .i64 _), (3, .int .i64 _)]) (cs := [_, _, _, _, _, _, _, _, _]) rfl rfl rfl rfl rfl rfl) ?_
  refine op_alloc (cs := [_, _, _, _, _, _, _, _, _]) rfl rfl fun b9 hb9 => ?_
  refine wp_norm [_, _, _] rfl ?_
  refine op_storeP 2 (v := .agg #[.int .i64 _, .int .i64 _, .int .i64 _, .int .i64 _, .int .i64 _, .slice _ _ _, .slice _ _ _, .slice _ _ _, .slice _ _ _]) (vs := [_, _, _, _, _, _, _, _, _]) (c' := [_, _, _, _, _, _, _, _, _]) rfl rfl rfl rfl rfl rfl rfl rfl rfl ?_
  refine wp_norm [_, _, _] rfl ?_
  refine xp_seq ?_
  refine xp_region rfl ?_
  refine op_pure (pv_move (v := .pointer (some ⟨b, 0, none⟩)) rfl) ?_
  refine op_pure (pv_fieldAddr rfl rfl rfl rfl 3 rfl) ?_
  refine op_loadP 2 (v := .int .i64 _) rfl rfl rfl rfl ?_
  refine op_pure (pv_quoT (c := t / 3) rfl rfl (by omega) (Int.tdiv_eq_ediv_of_nonneg (by omega)) (by omega)) ?_
  refine op_pure (pv_max rfl rfl) ?_
  refine op_fnMM [] [_] [_, _] (vs := [.pointer _, .int .i64 _, .int .i64 _]) rfl rfl rfl ((Within_ok b x4 1 (max 1 (t / 3)) (by omega) (by omega) (by omega) h4)) ?_
  rintro _ h5 _ E5 ⟨x5, o, rfl, rfl, o1, o2⟩
  refine wp_norm [_, _, _] rfl ?_
  refine op_pure (pv_fieldAddr rfl rfl rfl rfl 4 rfl) ?_
  refine op_storeP 2 (v := .int .i64 _) (vs := [_]) (c' := [_, _, _, _, _, _, _, _, _]) rfl rfl rfl rfl rfl rfl rfl rfl rfl ?_
  refine wp_norm [_, _, _] rfl ?_
  refine goes_more ?_
  refine goes_norm [_, _, _, _] rfl ?_
  refine goes_more ?_
  refine goes_norm [_, _, _, _, _] rfl ?_
  refine goes_more ?_
  refine goes_norm [_, _, _, _, _, _] rfl ?_
  refine goes_more ?_
  refine goes_norm [_, _, _, _, _, _, _] rfl ?_
  refine xp_seq ?_
  refine xp_seq ?_
  refine xp_region rfl ?_
  refine op_pure (pv_move (v := .pointer (some ⟨b, 0, none⟩)) rfl) ?_
  refine op_fnMM [] [_] [_, _, _, _, _, _] (vs := [.pointer _, .int .i64 _]) rfl rfl rfl ((Upto_ok b x5 3 (by omega) h5)) ?_
  rintro _ h6 _ E6 ⟨x6, i0, rfl, rfl, i01, i02⟩
  refine wp_norm [_, _, _, _, _, _, _] rfl ?_
  refine op_pure (pv_assign (v := .int .i64 _) rfl) ?_
  refine xp_block ?_
  refine xp_loopL [10, 37, 38, 39, 40, 41, 42, 43, 44, 45, 46, 47, 48, 49, 50] 7 (α := Int × Nat × List Int × Acc) (fun ⟨i, y, bs, a⟩ => [(10, .int .i64 i)]) (fun ⟨i, y, bs, a⟩ L => ((L.set 0 (some (b, .cells #[.int .u64 (y : Int)] 97 (0, 0)))).set 2 (some (b9, .cells #[.int .i64 r, .int .i64 v, .int .i64 g, .int .i64 t, .int .i64 o, .slice a.A a.n a.c, .slice none 0 0, .slice none 0 0, .slice none 0 0] 28 (0, 0)))).set 3 (a.p)) (fun ⟨i, y, bs, a⟩ h_i => (0 ≤ i ∧ i + bs.length ≤ 3) ∧ (∀ z ∈ bs, 0 ≤ z ∧ z < r) ∧ AccR 3 1 (bs.flatMap intC) a) (fun ⟨i, y, bs, a⟩ => i.toNat) ((i0, x6, [], acc0)) ⟨rfl, trivial⟩ (rfl) (⟨⟨by omega, by simp; omega⟩, fun _ hz => absurd hz List.not_mem_nil, accR0⟩) ?_
  rintro ⟨i, y, bs, a⟩ T1 h_i E_i J_i
  refine goes_norm [_, _, _, _, _, _, _] rfl ?_
  obtain ⟨⟨K1, K2⟩, K3, KA⟩ := J_i
  refine xp_seq ?_
  refine xp_seq ?_
  refine xp_region rfl ?_
  refine op_pure (pv_move (v := .int .i64 _) rfl) ?_
  refine op_pure (pv_of (v := .bool _) rfl) ?_
  refine xp_cond rfl (fun ht => ?_) (fun ht => ?_)
  · skip
    have hi : 0 < i := of_decide_eq_true ht
    refine xp_skip ?_
    refine xp_seq ?_
    refine xp_block ?_
    refine xp_dw [true, false, false, false, false, false, false] rfl rfl rfl ?_
    refine dw_pure (i := 0) rfl (by decide +kernel) (pv_fieldAddr rfl rfl rfl rfl 5 rfl) ?_
    refine dw_load (i := 1) rfl (by decide +kernel) ?_
    refine op_loadP 2 (v := .slice _ _ _) rfl rfl rfl rfl ?_
    refine dw_pure (i := 2) rfl (by decide +kernel) (pv_move (v := .pointer (some ⟨b, 0, none⟩)) rfl) ?_
    refine dw_pure (i := 3) rfl (by decide +kernel) (pv_fieldAddr rfl rfl rfl rfl 0 rfl) ?_
    refine dw_load (i := 4) rfl (by decide +kernel) ?_
    refine op_loadP 2 (v := .int .i64 _) rfl rfl rfl rfl ?_
    refine dw_pure (i := 5) rfl (by decide +kernel) (pv_arith rfl (by omega)) ?_
    refine dw_eff (i := 6) rfl (by decide +kernel) ?_
    refine op_fnMM [] [_] [_, _, _, _, _, _] (vs := [.pointer _, .int .i64 _]) rfl rfl rfl ((Upto_ok b y (r - 1) (by omega) h_i)) ?_
    rintro _ h7 _ E7 ⟨y2, z, rfl, rfl, z1, z2⟩
    refine ⟨ext_wlm E7 _, ?_⟩
    refine dw_norm [_, _, _, _, _, _, _] rfl ?_
    refine dw_eff (i := 7) rfl (by decide +kernel) ?_
    refine op_buildSlice (zc := [_]) (vs := [(0, .int .i64 _)]) (cs := [_]) rfl rfl rfl rfl rfl rfl rfl fun b48 hb48 => ?_
    refine ⟨ext_newM hb48 _, ?_⟩
    refine dw_norm [_, _, _, _, _, _, _, _] rfl ?_
    refine dw_last (i := 8) rfl (by decide +kernel) (by decide +kernel) ?_
    refine op_appendR 3 KA rfl rfl rfl (fun V => rdP V (i := 7) rfl) rfl rfl rfl rfl rfl rfl rfl rfl rfl (by omega) rfl (by rw [flat_len (m := 1) (fun _ _ => rfl)]; simp; omega) fun a2 h2a E2a ha2 => ?_
    refine dw_norm [_, _, _, _, _, _, _, _] rfl ?_
    refine dw_pure (i := 9) rfl (by decide +kernel) (pv_fieldAddr rfl rfl rfl rfl 5 rfl) ?_
    refine dw_last (i := 10) rfl (by decide +kernel) (by decide +kernel) ?_
    refine op_storeP 2 (v := .slice _ _ _) (vs := [_]) (c' := [_, _, _, _, _, _, _, _, _]) rfl rfl rfl rfl rfl rfl rfl rfl rfl ?_
    refine dw_norm [_, _, _, _, _, _, _, _] rfl ?_
    refine dw_end rfl ?_
    refine xp_region rfl ?_
    refine op_pure (pv_move (v := .int .i64 _) rfl) ?_
    refine op_pure (pv_arith rfl (by omega)) ?_
    refine op_pure (pv_assign (v := .int .i64 _) rfl) ?_
    refine ⟨(i - 1, y2, bs ++ [z], a2), ⟨rfl, trivial⟩, rfl, rfl, (Ext.trans (Ext.trans E_i E7) E2a), fun h3 E3 => ⟨⟨by omega, by simp; omega⟩, mem_one K3 ⟨z1, by omega⟩, by rw [List.flatMap_append]; exact ha2⟩, by first | omega | (dsimp only; omega), ?_⟩
    repeat (first | exact off_base _ _ _ | refine off_upd (by decide) ?_ | refine off_updL rfl ?_ | refine off_mix rfl ?_)
  · skip
    have hi0 : i = 0 := by have := of_decide_eq_false ht; omega
    obtain ⟨pB, AB, nB, cB⟩ := a
    obtain rfl : nB = bs.length := by have := AccR.len KA; rw [flat_len (m := 1) (fun _ _ => rfl)] at this; dsimp only at this; omega
    dsimp only at *
    refine goes_pubO 3 rfl ?_
    intro gB GB PB
    refine goes_norm [_, _, _, _, _, _, _] rfl ?_
    have RB : Row gB 1 intC AB bs := ⟨fun _ _ => rfl, AccR.rd KA PB⟩
    refine xp_exit ?_
    refine xp_seq ?_
    refine xp_seq ?_
    refine xp_region rfl ?_
    refine op_pure (pv_move (v := .pointer (some ⟨b, 0, none⟩)) rfl) ?_
    refine op_pure (pv_move (v := .int .i64 _) rfl) ?_
    refine op_fnMM [] [_] [_, _, _, _, _, _] (vs := [.pointer _, .int .i64 _]) rfl rfl rfl ((Upto_ok b y pins (by omega) gB)) ?_
    rintro _ h8 _ E8 ⟨x8, j0, rfl, rfl, j01, j02⟩
    refine wp_norm [_, _, _, _, _, _, _] rfl ?_
    refine op_pure (pv_assign (v := .int .i64 _) rfl) ?_
    refine xp_block ?_
    refine xp_loopL [11, 54, 55, 56, 57, 58, 59, 60, 61, 62, 63, 64, 65, 66, 67, 68, 69, 70, 71, 72, 73, 74, 75, 76, 77, 78] 7 (α := Int × Nat × List PinP × Acc) (fun ⟨j, y, qs, a⟩ => [(11, .int .i64 j)]) (fun ⟨j, y, qs, a⟩ L => ((L.set 0 (some (b, .cells #[.int .u64 (y : Int)] 97 (0, 0)))).set 2 (some (b9, .cells #[.int .i64 r, .int .i64 v, .int .i64 g, .int .i64 t, .int .i64 o, .slice AB bs.length cB, .slice a.A a.n a.c, .slice none 0 0, .slice none 0 0] 28 (0, 0)))).set 4 (a.p)) (fun ⟨j, y, qs, a⟩ h_j => (0 ≤ j ∧ j + qs.length ≤ pins) ∧ (∀ p ∈ qs, (0 ≤ p.rod ∧ p.rod < r) ∧ (0 ≤ p.lever ∧ p.lever < v) ∧ (0 ≤ p.lag ∧ p.lag ≤ t)) ∧ AccR 36 3 (qs.flatMap pinC) a) (fun ⟨j, y, qs, a⟩ => j.toNat) ((j0, x8, [], acc0)) ⟨rfl, trivial⟩ (rfl) (⟨⟨by omega, by simp; omega⟩, fun _ hz => absurd hz List.not_mem_nil, accR0⟩) ?_
    rintro ⟨j, y, qs, a⟩ T3 h_j E_j J_j
    refine goes_norm [_, _, _, _, _, _, _] rfl ?_
    obtain ⟨⟨L1, L2⟩, L3, KA⟩ := J_j
    refine xp_seq ?_
    refine xp_seq ?_
    refine xp_region rfl ?_
    refine op_pure (pv_move (v := .int .i64 _) rfl) ?_
    refine op_pure (pv_of (v := .bool _) rfl) ?_
    refine xp_cond rfl (fun hu => ?_) (fun hu => ?_)
    · skip
      have hj : 0 < j := of_decide_eq_true hu
      refine xp_skip ?_
      refine xp_seq ?_
      refine xp_block ?_
      refine xp_dw [true, false, false, false, false, false, false] rfl rfl rfl ?_
      refine dw_pure (i := 0) rfl (by decide +kernel) (pv_fieldAddr rfl rfl rfl rfl 6 rfl) ?_
      refine dw_load (i := 1) rfl (by decide +kernel) ?_
      refine op_loadP 2 (v := .slice _ _ _) rfl rfl rfl rfl ?_
      refine dw_pure (i := 2) rfl (by decide +kernel) (pv_move (v := .pointer (some ⟨b, 0, none⟩)) rfl) ?_
      refine dw_pure (i := 3) rfl (by decide +kernel) (pv_fieldAddr rfl rfl rfl rfl 0 rfl) ?_
      refine dw_load (i := 4) rfl (by decide +kernel) ?_
      refine op_loadP 2 (v := .int .i64 _) rfl rfl rfl rfl ?_
      refine dw_pure (i := 5) rfl (by decide +kernel) (pv_arith rfl (by omega)) ?_
      refine dw_pure (i := 7) rfl (by decide +kernel) (pv_move (v := .pointer (some ⟨b, 0, none⟩)) rfl) ?_
      refine dw_pure (i := 8) rfl (by decide +kernel) (pv_fieldAddr rfl rfl rfl rfl 1 rfl) ?_
      refine dw_load (i := 9) rfl (by decide +kernel) ?_
      refine op_loadP 2 (v := .int .i64 _) rfl rfl rfl rfl ?_
      refine dw_pure (i := 10) rfl (by decide +kernel) (pv_arith rfl (by omega)) ?_
      refine dw_pure (i := 12) rfl (by decide +kernel) (pv_move (v := .pointer (some ⟨b, 0, none⟩)) rfl) ?_
      refine dw_pure (i := 13) rfl (by decide +kernel) (pv_fieldAddr rfl rfl rfl rfl 3 rfl) ?_
      refine dw_load (i := 14) rfl (by decide +kernel) ?_
      refine op_loadP 2 (v := .int .i64 _) rfl rfl rfl rfl ?_
      refine dw_pure (i := 15) rfl (by decide +kernel) (pv_quoT (c := t / 2) rfl rfl (by omega) (Int.tdiv_eq_ediv_of_nonneg (by omega)) (by omega)) ?_
      refine dw_eff (i := 6) rfl (by decide +kernel) ?_
      refine op_fnMM [] [_] [_, _, _, _, _, _] (vs := [.pointer _, .int .i64 _]) rfl rfl rfl ((Upto_ok b y (r - 1) (by omega) h_j)) ?_
      rintro _ h9 _ E9 ⟨y2, z, rfl, rfl, z1, z2⟩
      refine ⟨ext_wlm E9 _, ?_⟩
      refine dw_norm [_, _, _, _, _, _, _] rfl ?_
      refine dw_eff (i := 11) rfl (by decide +kernel) ?_
      refine op_fnMM [] [_] [_, _, _, _, _, _] (vs := [.pointer _, .int .i64 _]) rfl rfl rfl ((Upto_ok b y2 (v - 1) (by omega) h9)) ?_
      rintro _ h10 _ E10 ⟨y3, w, rfl, rfl, w1, w2⟩
      refine ⟨ext_wlm E10 _, ?_⟩
      refine dw_norm [_, _, _, _, _, _, _] rfl ?_
      refine dw_eff (i := 16) rfl (by decide +kernel) ?_
      refine op_fnMM [] [_] [_, _, _, _, _, _] (vs := [.pointer _, .int .i64 _]) rfl rfl rfl ((Upto_ok b y3 (t / 2) (by omega) h10)) ?_
      rintro _ h11 _ E11 ⟨y4, e, rfl, rfl, e1, e2⟩
      refine ⟨ext_wlm E11 _, ?_⟩
      refine dw_norm [_, _, _, _, _, _, _] rfl ?_
      refine dw_pure (i := 17) rfl (by decide +kernel) (pv_build (zc := [_, _, _]) (vs := [(0, .int .i64 _), (1, .int .i64 _), (2, .int .i64 _)]) (cs := [_, _, _]) rfl rfl rfl rfl rfl rfl) ?_
      refine dw_eff (i := 18) rfl (by decide +kernel) ?_
      refine op_buildSlice (zc := [_, _, _]) (vs := [(0, .agg #[.int .i64 _, .int .i64 _, .int .i64 _])]) (cs := [_, _, _]) rfl rfl rfl rfl rfl rfl rfl fun b76 hb76 => ?_
      refine ⟨ext_newM hb76 _, ?_⟩
      refine dw_norm [_, _, _, _, _, _, _, _] rfl ?_
      refine dw_last (i := 19) rfl (by decide +kernel) (by decide +kernel) ?_
      refine op_appendR 4 KA rfl rfl rfl (fun V => rdP V (i := 7) rfl) rfl rfl rfl rfl rfl rfl rfl rfl rfl (by omega) rfl (by rw [flat_len (m := 3) (fun _ _ => rfl)]; simp; omega) fun a2 h4a E4a ha2 => ?_
      refine dw_norm [_, _, _, _, _, _, _, _] rfl ?_
      refine dw_pure (i := 20) rfl (by decide +kernel) (pv_fieldAddr rfl rfl rfl rfl 6 rfl) ?_
      refine dw_last (i := 21) rfl (by decide +kernel) (by decide +kernel) ?_
      refine op_storeP 2 (v := .slice _ _ _) (vs := [_]) (c' := [_, _, _, _, _, _, _, _, _]) rfl rfl rfl rfl rfl rfl rfl rfl rfl ?_
      refine dw_norm [_, _, _, _, _, _, _, _] rfl ?_
      refine dw_end rfl ?_
      refine xp_region rfl ?_
      refine op_pure (pv_move (v := .int .i64 _) rfl) ?_
      refine op_pure (pv_arith rfl (by omega)) ?_
      refine op_pure (pv_assign (v := .int .i64 _) rfl) ?_
      refine ⟨(j - 1, y4, qs ++ [⟨z, w, e⟩], a2), ⟨rfl, trivial⟩, rfl, rfl, (Ext.trans (Ext.trans (Ext.trans (Ext.trans E_j E9) E10) E11) E4a), fun h3 E3 => ⟨⟨by omega, by simp; omega⟩, mem_one L3 ⟨⟨z1, by show z < r; omega⟩, ⟨w1, by show w < v; omega⟩, ⟨e1, by show e ≤ t; omega⟩⟩, by rw [List.flatMap_append]; exact ha2⟩, by first | omega | (dsimp only; omega), ?_⟩
      repeat (first | exact off_base _ _ _ | refine off_upd (by decide) ?_ | refine off_updL rfl ?_ | refine off_mix rfl ?_)
    · skip
      have hj0 : j = 0 := by have := of_decide_eq_false hu; omega
      obtain ⟨pP, AQ, nP, cQ⟩ := a
      obtain rfl : nP = qs.length := by have := AccR.len KA; rw [flat_len (m := 3) (fun _ _ => rfl)] at this; dsimp only at this; omega
      dsimp only at *
      refine goes_pubO 4 rfl ?_
      intro gP GP PP
      refine goes_norm [_, _, _, _, _, _, _] rfl ?_
      have RP : Row gP 3 pinC AQ qs := ⟨fun _ _ => rfl, AccR.rd KA PP⟩
      refine xp_exit ?_
      refine xp_cutB [12, 13, 79, 80, 81, 82, 83, 84, 85, 86, 87, 88, 89, 90, 91, 92, 93, 94, 95, 96, 97, 98, 99, 100, 101, 102, 103, 104, 105, 106, 107, 108, 109, 110, 111, 112, 113, 114, 115, 116, 117, 118, 119, 120, 121, 122, 123, 124, 125] 7 (α := Nat × List LinkP × Acc) (fun ⟨y, ls, a⟩ => []) (fun ⟨y, ls, a⟩ L => ((L.set 0 (some (b, .cells #[.int .u64 (y : Int)] 97 (0, 0)))).set 2 (some (b9, .cells #[.int .i64 r, .int .i64 v, .int .i64 g, .int .i64 t, .int .i64 o, .slice AB bs.length cB, .slice AQ qs.length cQ, .slice a.A a.n a.c, .slice none 0 0] 28 (0, 0)))).set 5 (a.p)) (fun ⟨y, ls, a⟩ h_y => (ls.length : Int) ≤ links ∧ (∀ p ∈ ls, (0 ≤ p.frm ∧ p.frm < r) ∧ (0 ≤ p.to ∧ p.to < r) ∧ p.frm ≠ p.to ∧ (-1 ≤ p.reg ∧ p.reg < g) ∧ (1 ≤ p.lag ∧ p.lag ≤ t)) ∧ AccR 39 4 (ls.flatMap linkC) a) ?_ ?_
      · skip
        refine xp_seq ?_
        refine xp_region rfl ?_
        refine op_pure (pv_move (v := .pointer (some ⟨b, 0, none⟩)) rfl) ?_
        refine op_pure (pv_move (v := .int .i64 _) rfl) ?_
        refine op_fnMM [] [_] [_, _, _, _, _, _] (vs := [.pointer _, .int .i64 _]) rfl rfl rfl ((Upto_ok b y links (by omega) gP)) ?_
        rintro _ h12 _ E12 ⟨x12, k0, rfl, rfl, k01, k02⟩
        refine wp_norm [_, _, _, _, _, _, _] rfl ?_
        refine op_pure (pv_assign (v := .int .i64 _) rfl) ?_
        refine xp_block ?_
        refine xp_loopL [12, 13, 82, 83, 84, 85, 86, 87, 88, 89, 90, 91, 92, 93, 94, 95, 96, 97, 98, 99, 100, 101, 102, 103, 104, 105, 106, 107, 108, 109, 110, 111, 112, 113, 114, 115, 116, 117, 118, 119, 120, 121, 122, 123, 124, 125] 7 (α := Int × Nat × List LinkP × Acc) (fun ⟨k, y, ls, a⟩ => [(12, .int .i64 k)]) (fun ⟨k, y, ls, a⟩ L => ((L.set 0 (some (b, .cells #[.int .u64 (y : Int)] 97 (0, 0)))).set 2 (some (b9, .cells #[.int .i64 r, .int .i64 v, .int .i64 g, .int .i64 t, .int .i64 o, .slice AB bs.length cB, .slice AQ qs.length cQ, .slice a.A a.n a.c, .slice none 0 0] 28 (0, 0)))).set 5 (a.p)) (fun ⟨k, y, ls, a⟩ h_k => (0 ≤ k ∧ k + ls.length ≤ links) ∧ (∀ p ∈ ls, (0 ≤ p.frm ∧ p.frm < r) ∧ (0 ≤ p.to ∧ p.to < r) ∧ p.frm ≠ p.to ∧ (-1 ≤ p.reg ∧ p.reg < g) ∧ (1 ≤ p.lag ∧ p.lag ≤ t)) ∧ AccR 39 4 (ls.flatMap linkC) a) (fun ⟨k, y, ls, a⟩ => k.toNat) ((k0, x12, [], acc0)) ⟨rfl, trivial⟩ (rfl) (⟨⟨by omega, by simp; omega⟩, fun _ hz => absurd hz List.not_mem_nil, accR0⟩) ?_
        rintro ⟨k, y, ls, a⟩ T6 h_k E_k J_k
        refine goes_norm [_, _, _, _, _, _, _] rfl ?_
        obtain ⟨⟨N1, N2⟩, N3, KA⟩ := J_k
        refine xp_seq ?_
        refine xp_seq ?_
        refine xp_region rfl ?_
        refine op_pure (pv_move (v := .int .i64 _) rfl) ?_
        refine op_pure (pv_of (v := .bool _) rfl) ?_
        refine op_pure (pv_move (v := .bool _) rfl) ?_
        rcases Bool.eq_false_or_eq_true (decide (k > 0)) with hk | hk
        · skip
          have hk0 : k > 0 := of_decide_eq_true hk
          refine guard_yes rfl hk ?_
          refine op_pure (pv_fieldAddr rfl rfl rfl rfl 0 rfl) ?_
          refine guard_yes rfl hk ?_
          refine op_loadP 2 (v := .int .i64 _) rfl rfl rfl rfl ?_
          refine guard_yes rfl hk ?_
          refine op_pure (pv_of (v := .bool _) rfl) ?_
          refine op_pure (pv_pickT rfl hk (v := .bool _) rfl) ?_
          refine xp_cond rfl (fun hr => ?_) (fun hr => ?_)
          · skip
            have hr1 : r > 1 := of_decide_eq_true hr
            refine xp_skip ?_
            refine xp_seq ?_
            refine xp_block ?_
            refine xp_seq ?_
            refine xp_dw [true, false, false, false, false, false, false] rfl rfl rfl ?_
            refine dw_pure (i := 0) rfl (by decide +kernel) (pv_move (v := .pointer (some ⟨b, 0, none⟩)) rfl) ?_
            refine dw_pure (i := 1) rfl (by decide +kernel) (pv_fieldAddr rfl rfl rfl rfl 0 rfl) ?_
            refine dw_load (i := 2) rfl (by decide +kernel) ?_
            refine op_loadP 2 (v := .int .i64 _) rfl rfl rfl rfl ?_
            refine dw_pure (i := 3) rfl (by decide +kernel) (pv_arith rfl (by omega)) ?_
            refine dw_pure (i := 5) rfl (by decide +kernel) (pv_move (v := .pointer (some ⟨b, 0, none⟩)) rfl) ?_
            refine dw_pure (i := 6) rfl (by decide +kernel) (pv_fieldAddr rfl rfl rfl rfl 2 rfl) ?_
            refine dw_load (i := 7) rfl (by decide +kernel) ?_
            refine op_loadP 2 (v := .int .i64 _) rfl rfl rfl rfl ?_
            refine dw_pure (i := 8) rfl (by decide +kernel) (pv_arith rfl (by omega)) ?_
            refine dw_pure (i := 10) rfl (by decide +kernel) (pv_move (v := .pointer (some ⟨b, 0, none⟩)) rfl) ?_
            refine dw_pure (i := 11) rfl (by decide +kernel) (pv_fieldAddr rfl rfl rfl rfl 3 rfl) ?_
            refine dw_load (i := 12) rfl (by decide +kernel) ?_
            refine op_loadP 2 (v := .int .i64 _) rfl rfl rfl rfl ?_
            refine dw_pure (i := 13) rfl (by decide +kernel) (pv_quoT (c := t / 3) rfl rfl (by omega) (Int.tdiv_eq_ediv_of_nonneg (by omega)) (by omega)) ?_
            refine dw_pure (i := 14) rfl (by decide +kernel) (pv_max rfl rfl) ?_
            refine dw_eff (i := 4) rfl (by decide +kernel) ?_
            refine op_fnMM [] [_] [_, _, _, _, _, _] (vs := [.pointer _, .int .i64 _]) rfl rfl rfl ((Upto_ok b y (r - 1) (by omega) h_k)) ?_
            rintro _ h13 _ E13 ⟨y2, z, rfl, rfl, z1, z2⟩
            refine ⟨ext_wlm E13 _, ?_⟩
            refine dw_norm [_, _, _, _, _, _, _] rfl ?_
            refine dw_eff (i := 9) rfl (by decide +kernel) ?_
            refine op_fnMM [] [_] [_, _, _, _, _, _] (vs := [.pointer _, .int .i64 _, .int .i64 _]) rfl rfl rfl ((Within_ok b y2 (-1) (g - 1) (by omega) (by omega) (by omega) h13)) ?_
            rintro _ h14 _ E14 ⟨y3, e, rfl, rfl, e1, e2⟩
            refine ⟨ext_wlm E14 _, ?_⟩
            refine dw_norm [_, _, _, _, _, _, _] rfl ?_
            refine dw_last (i := 15) rfl (by decide +kernel) (by decide +kernel) ?_
            refine op_fnMM [] [_] [_, _, _, _, _, _] (vs := [.pointer _, .int .i64 _, .int .i64 _]) rfl rfl rfl ((Within_ok b y3 1 (max 1 (t / 3)) (by omega) (by omega) (by omega) h14)) ?_
            rintro _ h15 _ E15 ⟨y4, w, rfl, rfl, w1, w2⟩
            refine dw_norm [_, _, _, _, _, _, _] rfl ?_
            refine dw_pure (i := 16) rfl (by decide +kernel) (pv_build (zc := [_, _, _, _]) (vs := [(0, .int .i64 _), (2, .int .i64 _), (3, .int .i64 _)]) (cs := [_, _, _, _]) rfl rfl rfl rfl rfl rfl) ?_
            refine dw_eff (i := 17) rfl (by decide +kernel) ?_
            refine op_alloc (cs := [_, _, _, _]) rfl rfl fun b13 hb13 => ?_
            refine ⟨ext_newM hb13 _, ?_⟩
            refine dw_norm [_, _, _, _, _, _, _, _] rfl ?_
            refine dw_last (i := 18) rfl (by decide +kernel) (by decide +kernel) ?_
            refine op_storeP 7 (v := .agg #[.int .i64 _, .int .i64 _, .int .i64 _, .int .i64 _]) (vs := [_, _, _, _]) (c' := [_, _, _, _]) rfl rfl rfl rfl rfl rfl rfl rfl rfl ?_
            refine dw_norm [_, _, _, _, _, _, _, _] rfl ?_
            refine dw_end rfl ?_
            refine xp_seq ?_
            refine xp_dw [true, false, false, false, false, false, false, false] rfl rfl rfl ?_
            refine dw_pure (i := 0) rfl (by decide +kernel) (pv_fieldAddr rfl rfl rfl rfl 0 rfl) ?_
            refine dw_load (i := 1) rfl (by decide +kernel) ?_
            refine op_loadP 7 (v := .int .i64 _) rfl rfl rfl rfl ?_
            refine dw_pure (i := 2) rfl (by decide +kernel) (pv_move (v := .pointer (some ⟨b, 0, none⟩)) rfl) ?_
            refine dw_pure (i := 3) rfl (by decide +kernel) (pv_fieldAddr rfl rfl rfl rfl 0 rfl) ?_
            refine dw_load (i := 4) rfl (by decide +kernel) ?_
            refine op_loadP 2 (v := .int .i64 _) rfl rfl rfl rfl ?_
            refine dw_pure (i := 5) rfl (by decide +kernel) (pv_arith rfl (by omega)) ?_
            refine dw_pure (i := 8) rfl (by decide +kernel) (pv_fieldAddr rfl rfl rfl rfl 0 rfl) ?_
            refine dw_load (i := 9) rfl (by decide +kernel) ?_
            refine op_loadP 2 (v := .int .i64 _) rfl rfl rfl rfl ?_
            refine dw_eff (i := 6) rfl (by decide +kernel) ?_
            refine op_fnMM [] [_] [_, _, _, _, _, _, _] (vs := [.pointer _, .int .i64 _, .int .i64 _]) rfl rfl rfl ((Within_ok b y4 1 (r - 1) (by omega) (by omega) (by omega) h15)) ?_
            rintro _ h16 _ E16 ⟨y5, d, rfl, rfl, d1, d2⟩
            refine ⟨ext_wlm E16 _, ?_⟩
            refine dw_norm [_, _, _, _, _, _, _, _] rfl ?_
            refine dw_pure (i := 7) rfl (by decide +kernel) (pv_arith rfl (by omega)) ?_
            refine dw_last (i := 10) rfl (by decide +kernel) (by decide +kernel) ?_
            refine op_fn (caps := []) (vs := [.int .i64 _, .int .i64 _]) rfl rfl rfl (Turn_ok (z + d) r (by omega) h16) ?_
            rintro _ h17 E17 rfl
            have tb := turnI_bd (z + d) r
            have tn := turnI_ne (f := z) (d := d) (n := r) (by omega) ⟨z1, by omega⟩ ⟨d1, by omega⟩
            refine dw_pure (i := 11) rfl (by decide +kernel) (pv_fieldAddr rfl rfl rfl rfl 1 rfl) ?_
            refine dw_last (i := 12) rfl (by decide +kernel) (by decide +kernel) ?_
            refine op_storeP 7 (v := .int .i64 _) (vs := [_]) (c' := [_, _, _, _]) rfl rfl rfl rfl rfl rfl rfl rfl rfl ?_
            refine dw_norm [_, _, _, _, _, _, _, _] rfl ?_
            refine dw_end rfl ?_
            refine xp_region rfl ?_
            refine op_pure (pv_fieldAddr rfl rfl rfl rfl 7 rfl) ?_
            refine op_loadP 2 (v := .slice _ _ _) rfl rfl rfl rfl ?_
            refine op_loadPA 7 (vs := [.int .i64 _, .int .i64 _, .int .i64 _, .int .i64 _]) rfl rfl rfl rfl rfl ?_
            refine op_buildSlice (zc := [_, _, _, _]) (vs := [(0, .agg #[.int .i64 _, .int .i64 _, .int .i64 _, .int .i64 _])]) (cs := [_, _, _, _]) rfl rfl rfl rfl rfl rfl rfl fun b123 hb123 => ?_
            refine wp_norm [_, _, _, _, _, _, _, _, _] rfl ?_
            refine op_appendR 5 KA rfl rfl rfl (fun V => rdP V (i := 8) rfl) rfl rfl rfl rfl rfl rfl rfl rfl rfl (by omega) rfl (by rw [flat_len (m := 4) (fun _ _ => rfl)]; simp; omega) fun a2 h7a E7a ha2 => ?_
            refine wp_norm [_, _, _, _, _, _, _, _, _] rfl ?_
            refine op_pure (pv_fieldAddr rfl rfl rfl rfl 7 rfl) ?_
            refine op_storeP 2 (v := .slice _ _ _) (vs := [_]) (c' := [_, _, _, _, _, _, _, _, _]) rfl rfl rfl rfl rfl rfl rfl rfl rfl ?_
            refine wp_norm [_, _, _, _, _, _, _, _, _] rfl ?_
            refine xp_region rfl ?_
            refine op_pure (pv_move (v := .int .i64 _) rfl) ?_
            refine op_pure (pv_arith rfl (by omega)) ?_
            refine op_pure (pv_assign (v := .int .i64 _) rfl) ?_
            refine ⟨(k - 1, y5, ls ++ [⟨z, turnI (z + d) r, e, w⟩], a2), ⟨rfl, trivial⟩, rfl, rfl, (Ext.trans (Ext.trans (Ext.trans (Ext.trans (Ext.trans (Ext.trans E_k E13) E14) E15) E16) E17) E7a), fun h3 E3 => ⟨⟨by omega, by simp; omega⟩, mem_one N3 ⟨⟨z1, by show z < r; omega⟩, ⟨tb.1, tb.2 (by omega)⟩, fun he => tn he.symm, ⟨e1, by show e < g; omega⟩, ⟨w1, by show w ≤ t; omega⟩⟩, by rw [List.flatMap_append]; exact ha2⟩, by first | omega | (dsimp only; omega), ?_⟩
            repeat (first | exact off_base _ _ _ | refine off_upd (by decide) ?_ | refine off_updL rfl ?_ | refine off_mix rfl ?_)
          · skip
            refine xp_exit ?_
            refine ⟨(y, ls, a), trivial, rfl, rfl, (Ext.trans E12 E_k), fun h3 E3 => ⟨by omega, N3, KA⟩, ?_⟩
            repeat (first | exact off_refl _ _ | exact off_base _ _ _ | refine off_upd (by decide) ?_ | refine off_updL rfl ?_ | refine off_mix rfl ?_)
        · skip
          have hk0 : k = 0 := by have := of_decide_eq_false hk; omega
          refine guard_no rfl hk ?_
          refine guard_no rfl hk ?_
          refine guard_no rfl hk ?_
          refine op_pure (pv_pickF rfl hk (v := .bool _) rfl) ?_
          refine xp_condF rfl (rfl) ?_
          refine xp_exit ?_
          refine ⟨(y, ls, a), trivial, rfl, rfl, (Ext.trans E12 E_k), fun h3 E3 => ⟨by omega, N3, KA⟩, ?_⟩
          repeat (first | exact off_refl _ _ | exact off_base _ _ _ | refine off_upd (by decide) ?_ | refine off_updL rfl ?_ | refine off_mix rfl ?_)
      · rintro ⟨y, ls, a⟩ T5 h_y E_y J_y
        refine goes_norm [_, _, _, _, _, _, _] rfl ?_
        obtain ⟨N1, N3, KA⟩ := J_y
        obtain ⟨pL, AL, nL, cL⟩ := a
        obtain rfl : nL = ls.length := by have := AccR.len KA; rw [flat_len (m := 4) (fun _ _ => rfl)] at this; dsimp only at this; omega
        dsimp only at *
        refine goes_pubO 5 rfl ?_
        intro gL GL PL
        refine goes_norm [_, _, _, _, _, _, _] rfl ?_
        have RL : Row gL 4 linkC AL ls := ⟨fun _ _ => rfl, AccR.rd KA PL⟩
        refine xp_seq ?_
        refine xp_seq ?_
        refine xp_region rfl ?_
        refine op_pure (pv_assign (v := .int .i64 _) rfl) ?_
        refine xp_block ?_
        refine xp_loopL [14, 126, 127, 128, 129, 130, 131, 132, 133, 134, 135, 136, 137, 138] 7 (α := Nat × Nat × List Int × Acc) (fun ⟨k, y, ws, a⟩ => [(14, .int .i64 k)]) (fun ⟨k, y, ws, a⟩ L => ((L.set 0 (some (b, .cells #[.int .u64 (y : Int)] 97 (0, 0)))).set 2 (some (b9, .cells #[.int .i64 r, .int .i64 v, .int .i64 g, .int .i64 t, .int .i64 o, .slice AB bs.length cB, .slice AQ qs.length cQ, .slice AL ls.length cL, .slice a.A a.n a.c] 28 (0, 0)))).set 6 (a.p)) (fun ⟨k, y, ws, a⟩ h_k => (k ≤ v.toNat ∧ ws.length = k) ∧ (∀ z ∈ ws, 0 ≤ z ∧ z ≤ 50) ∧ AccR 3 1 (ws.flatMap intC) a) (fun ⟨k, y, ws, a⟩ => v.toNat - k) ((0, y, [], acc0)) ⟨rfl, trivial⟩ (rfl) (⟨⟨by omega, rfl⟩, fun _ hz => absurd hz List.not_mem_nil, accR0⟩) ?_
        rintro ⟨k, y, ws, a⟩ T8 h_k E_k J_k
        refine goes_norm [_, _, _, _, _, _, _] rfl ?_
        obtain ⟨⟨M1, M2⟩, M3, KA⟩ := J_k
        refine xp_seq ?_
        refine xp_seq ?_
        refine xp_region rfl ?_
        refine op_pure (pv_move (v := .int .i64 _) rfl) ?_
        refine op_pure (pv_fieldAddr rfl rfl rfl rfl 1 rfl) ?_
        refine op_loadP 2 (v := .int .i64 _) rfl rfl rfl rfl ?_
        refine op_pure (pv_of (v := .bool _) rfl) ?_
        refine xp_cond rfl (fun hw => ?_) (fun hw => ?_)
        · skip
          have hkv : (k : Int) < v := of_decide_eq_true hw
          refine xp_skip ?_
          refine xp_seq ?_
          refine xp_block ?_
          refine xp_dw [true, false, false, false, false, false, false] rfl rfl rfl ?_
          refine dw_pure (i := 0) rfl (by decide +kernel) (pv_fieldAddr rfl rfl rfl rfl 8 rfl) ?_
          refine dw_load (i := 1) rfl (by decide +kernel) ?_
          refine op_loadP 2 (v := .slice _ _ _) rfl rfl rfl rfl ?_
          refine dw_pure (i := 2) rfl (by decide +kernel) (pv_move (v := .pointer (some ⟨b, 0, none⟩)) rfl) ?_
          refine dw_eff (i := 3) rfl (by decide +kernel) ?_
          refine op_fnMM [] [_] [_, _, _, _, _, _] (vs := [.pointer _, .int .i64 _]) rfl rfl rfl ((Upto_ok b y 9 (by omega) h_k)) ?_
          rintro _ h18 _ E18 ⟨y2, z, rfl, rfl, z1, z2⟩
          refine ⟨ext_wlm E18 _, ?_⟩
          refine dw_norm [_, _, _, _, _, _, _] rfl ?_
          refine dw_eff (i := 4) rfl (by decide +kernel) ?_
          refine op_buildSlice (zc := [_]) (vs := [(0, .int .i64 _)]) (cs := [_]) rfl rfl rfl rfl rfl rfl rfl fun b136 hb136 => ?_
          refine ⟨ext_newM hb136 _, ?_⟩
          refine dw_norm [_, _, _, _, _, _, _, _] rfl ?_
          refine dw_last (i := 5) rfl (by decide +kernel) (by decide +kernel) ?_
          refine op_appendR 6 KA rfl rfl rfl (fun V => rdP V (i := 7) rfl) rfl rfl rfl rfl rfl rfl rfl rfl rfl (by omega) rfl (by rw [flat_len (m := 1) (fun _ _ => rfl)]; simp; omega) fun a2 h9a E9a ha2 => ?_
          refine dw_norm [_, _, _, _, _, _, _, _] rfl ?_
          refine dw_pure (i := 6) rfl (by decide +kernel) (pv_fieldAddr rfl rfl rfl rfl 8 rfl) ?_
          refine dw_last (i := 7) rfl (by decide +kernel) (by decide +kernel) ?_
          refine op_storeP 2 (v := .slice _ _ _) (vs := [_]) (c' := [_, _, _, _, _, _, _, _, _]) rfl rfl rfl rfl rfl rfl rfl rfl rfl ?_
          refine dw_norm [_, _, _, _, _, _, _, _] rfl ?_
          refine dw_end rfl ?_
          refine xp_region rfl ?_
          refine op_pure (pv_move (v := .int .i64 _) rfl) ?_
          refine op_pure (pv_arith rfl (by omega)) ?_
          refine op_pure (pv_assign (v := .int .i64 _) rfl) ?_
          refine ⟨(k + 1, y2, ws ++ [z], a2), ⟨rfl, trivial⟩, rfl, rfl, (Ext.trans (Ext.trans E_k E18) E9a), fun h3 E3 => ⟨⟨by omega, by simp; omega⟩, mem_one M3 ⟨z1, by omega⟩, by rw [List.flatMap_append]; exact ha2⟩, by first | omega | (dsimp only; omega), ?_⟩
          repeat (first | exact off_base _ _ _ | refine off_upd (by decide) ?_ | refine off_updL rfl ?_ | refine off_mix rfl ?_)
        · skip
          have hkv : (k : Int) = v := by have := of_decide_eq_false hw; omega
          obtain ⟨pW, AW, nW, cW⟩ := a
          obtain rfl : nW = ws.length := by have := AccR.len KA; rw [flat_len (m := 1) (fun _ _ => rfl)] at this; dsimp only at this; omega
          dsimp only at *
          refine goes_pubO 6 rfl ?_
          intro gW GW PW
          refine goes_norm [_, _, _, _, _, _, _] rfl ?_
          have RW : Row gW 1 intC AW ws := ⟨fun _ _ => rfl, AccR.rd KA PW⟩
          refine xp_exit ?_
          refine xp_seq ?_
          refine xp_region rfl ?_
          refine op_loadPA 2 (vs := [.int .i64 _, .int .i64 _, .int .i64 _, .int .i64 _, .int .i64 _, .slice _ _ _, .slice _ _ _, .slice _ _ _, .slice _ _ _]) rfl rfl rfl rfl rfl ?_
          refine op_storeP 1 (v := .agg #[.int .i64 _, .int .i64 _, .int .i64 _, .int .i64 _, .int .i64 _, .slice _ _ _, .slice _ _ _, .slice _ _ _, .slice _ _ _]) (vs := [_, _, _, _, _, _, _, _, _]) (c' := [_, _, _, _, _, _, _, _, _]) rfl rfl rfl rfl rfl rfl rfl rfl rfl ?_
          refine wp_norm [_, _, _, _, _, _, _] rfl ?_
          refine xp_ret ?_
          refine res_list (vs := [_]) Try.results18 ⟨resV_agg 1 rfl rfl rfl rfl rfl (vs := [.int .i64 _, .int .i64 _, .int .i64 _, .int .i64 _, .int .i64 _, .slice _ _ _, .slice _ _ _, .slice _ _ _, .slice _ _ _]) rfl, trivial⟩ fun V => ?_
          obtain ⟨h9, E9, e9, V9⟩ := wl_drop [_, _, _, _, _, _] [_] V
          have RB9 := (RB.ext (Ext.trans (Ext.trans (Ext.trans (Ext.trans (Ext.trans (Ext.trans E8 E_j) GP) E_y) GL) E_k) GW)).ext E9
          refine ⟨h9, _, e9, V9, Ext.trans (Ext.trans (Ext.trans (Ext.trans (Ext.trans (Ext.trans (Ext.trans (Ext.trans (Ext.trans (Ext.trans (Ext.trans (Ext.trans (Ext.trans (Ext.trans (Ext.trans E1 E2) E3) E4) E5) E6) E_i) GB) E8) E_j) GP) E_y) GL) E_k) GW) E9, y, ⟨r, v, g, t, o, bs, qs, ls, ws⟩, rfl, ⟨.slice AB bs.length cB, .slice AQ qs.length cQ, .slice AL ls.length cL, .slice AW ws.length cW, rfl, ⟨AB, cB, rfl, RB9⟩, ⟨AQ, cQ, rfl, (RP.ext (Ext.trans (Ext.trans (Ext.trans E_y GL) E_k) GW)).ext E9⟩, ⟨AL, cL, rfl, (RL.ext (Ext.trans E_k GW)).ext E9⟩, ⟨AW, cW, rfl, RW.ext E9⟩⟩, ?_⟩
          exact ⟨⟨⟨r1, by show r ≤ 6; omega⟩, ⟨v1, by show v ≤ 6; omega⟩, ⟨g1, by show g ≤ 2; omega⟩, ⟨by show 1 ≤ t; omega, t2⟩, ⟨o1, by show o ≤ t; omega⟩, by show bs.length ≤ 4; omega, K3, by show qs.length ≤ 8; omega, L3, by show ls.length ≤ 4; omega, N3, by show (ws.length : Int) = v; omega, M3⟩, by show r ≤ size; omega, by show v ≤ size; omega, by show bs.length ≤ 3; omega, by show (qs.length : Int) ≤ pins; omega, N1⟩
end
end Go.Proofs.Ythphpbdmbmiaiaa
/- Walks: hands that are made of numbers, copies. Conditions: as each theorem states. -/
namespace Go.Proofs.Ythphpbdmbmiaiaa
open Go Go.HL Go.Proofs Go.Wx Go.Rd
section
variable [Lvl]
set_option maxRecDepth 100000
theorem set_of {l : List Int} {n : Nat} {k : Int} (e : k = n) (h : ∀ z ∈ l, 0 ≤ z ∧ z < n) (p : l.Pairwise (· < ·)) : SetOK l k := by
  subst e
  exact ⟨h, p⟩
theorem HandOf_ok (b x : Nat) (m : MachP) (hb : m.buttons.length ≤ 100) (hr : 0 ≤ m.regs ∧ m.regs ≤ 100) (AB AQ AL AW : Option Addr) (cB cQ cL cW : Nat) (h : AH) :
    FnM Try.prog (.func (.func 19) #[] ([] : List Value).toArray) [.pointer (some ⟨b, 0, none⟩), machV AB AQ AL AW cB cQ cL cW m] h [some (b, .cells #[.int .u64 (x : Int)] 97 (0, 0))]
    (fun v h' M' => ∃ (x' : Nat) (a : HandP), M' = [some (b, .cells #[.int .u64 (x' : Int)] 97 (0, 0))] ∧ HandV h' a v ∧ HOK m a) := by
  refine fnM_body rfl rfl Try.func19 rfl Try.ntmps19 rfl ?_
  refine xp_seq ?_
  refine xp_region rfl ?_
  refine op_box (v := .agg #[.int .i64 _, .int .i64 _, .int .i64 _, .int .i64 _, .int .i64 _, .slice _ _ _, .slice _ _ _, .slice _ _ _, .slice _ _ _]) (cs := [_, _, _, _, _, _, _, _, _]) rfl rfl fun b3 hb3 => ?_
  refine wp_norm [_, _] rfl ?_
  refine op_alloc (cs := [_, _]) rfl rfl fun b4 hb4 => ?_
  refine wp_norm [_, _, _] rfl ?_
  refine xp_seq ?_
  refine xp_dw [true, false, false] rfl rfl rfl ?_
  refine dw_pure (i := 0) rfl (by decide +kernel) (pv_move (v := .pointer (some ⟨b, 0, none⟩)) rfl) ?_
  refine dw_pure (i := 1) rfl (by decide +kernel) (pv_fieldAddr rfl rfl rfl rfl 5 rfl) ?_
  refine dw_load (i := 2) rfl (by decide +kernel) ?_
  refine op_loadP 1 (v := .slice _ _ _) rfl rfl rfl rfl ?_
  refine dw_pure (i := 3) rfl (by decide +kernel) (pv_len rfl rfl) ?_
  refine dw_pure (i := 5) rfl (by decide +kernel) (pv_move (v := .pointer (some ⟨b, 0, none⟩)) rfl) ?_
  refine dw_pure (i := 6) rfl (by decide +kernel) (pv_fieldAddr rfl rfl rfl rfl 2 rfl) ?_
  refine dw_load (i := 7) rfl (by decide +kernel) ?_
  refine op_loadP 1 (v := .int .i64 _) rfl rfl rfl rfl ?_
  refine dw_eff (i := 4) rfl (by decide +kernel) ?_
  refine op_fnMM [] [_] [_, _] (vs := [.pointer _, .int .i64 _]) rfl rfl rfl ((Pick_ok b x m.buttons.length (by omega) h)) ?_
  rintro _ h1 _ E1 ⟨x1, l, rfl, ⟨A1, c1, rfl, R1⟩, k1, k2, k3⟩
  refine ⟨ext_wlm E1 _, ?_⟩
  refine dw_norm [_, _, _] rfl ?_
  refine dw_last (i := 8) rfl (by decide +kernel) (by decide +kernel) ?_
  refine op_fnMM [] [_] [_, _] (vs := [.pointer _, .int .i64 _]) rfl rfl rfl (fnM_args (by simp only [List.cons.injEq, Value.int.injEq, true_and, and_true]; omega) (Pick_ok b x1 m.regs.toNat (by omega) h1)) ?_
  rintro _ h2 _ E2 ⟨x2, l2, rfl, ⟨A2, c2, rfl, R2⟩, j1, j2, j3⟩
  refine dw_norm [_, _, _] rfl ?_
  refine dw_pure (i := 9) rfl (by decide +kernel) (pv_build (zc := [_, _]) (vs := [(0, .slice _ _ _), (1, .slice _ _ _)]) (cs := [_, _]) rfl rfl rfl rfl rfl rfl) ?_
  refine dw_last (i := 10) rfl (by decide +kernel) (by decide +kernel) ?_
  refine op_storeP 2 (v := .agg #[.slice _ _ _, .slice _ _ _]) (vs := [_, _]) (c' := [_, _]) rfl rfl rfl rfl rfl rfl rfl rfl rfl ?_
  refine dw_norm [_, _, _] rfl ?_
  refine dw_end rfl ?_
  refine xp_ret ?_
  refine res_list (vs := [_]) Try.results19 ⟨resV_agg 2 rfl rfl rfl rfl rfl (vs := [.slice _ _ _, .slice _ _ _]) rfl, trivial⟩ fun V => ?_
  obtain ⟨h9, E9, e9, V9⟩ := wl_drop [_, _] [_] V
  exact ⟨h9, _, e9, V9, Ext.trans (Ext.trans E1 E2) E9, x2, ⟨l, l2⟩, rfl, ⟨_, _, rfl, ⟨A1, c1, rfl, (R1.ext E2).ext E9⟩, ⟨A2, c2, rfl, R2.ext E9⟩⟩, ⟨k1, k2⟩, set_of (by omega) j1 j2⟩
theorem Ints_okM (l : List Int) (A : Option Addr) (c : Nat) (h : AH) (R : Row h 1 intC A l) (hl : l.length < 2 ^ 20) :
    FnM Try.prog (.func (.func 56) #[] ([] : List Value).toArray) [.slice A l.length c] h [] (fun v h' M' => ∃ a : Acc, M' = [a.p] ∧ v = .slice a.A a.n a.c ∧ AccR 3 1 (l.flatMap intC) a) := by
  refine fnM_body rfl rfl Try.func56 rfl Try.ntmps56 rfl ?_
  refine xp_seq ?_
  refine xp_region rfl ?_
  refine op_pure (pv_assign (v := .slice _ _ _) rfl) ?_
  refine xp_seq ?_
  refine xp_region rfl ?_
  refine op_buildSlice (zc := [_]) (vs := []) (cs := []) rfl rfl rfl rfl rfl rfl rfl fun b3 hb3 => ?_
  refine wp_norm [_] rfl ?_
  refine op_pure (pv_move (v := .slice _ _ _) rfl) ?_
  refine op_appendR 0 accR_new rfl rfl rfl (fun V => R.2.ext (Ext.trans (Ext.refl _) (ext_wl V))) (flat_len R.1) (flat_plain intP2 l) rfl rfl rfl rfl rfl rfl rfl (by omega) rfl (by rw [flat_len R.1, List.length_nil]; omega) fun a0 h1a E1a ha0 => ?_
  refine wp_norm [_] rfl ?_
  refine op_pure (pv_assign (v := .slice _ _ _) rfl) ?_
  refine xp_ret ?_
  refine res_list (vs := [_]) Try.results56 ⟨resV_tmp rfl rfl, trivial⟩ fun V => ?_
  exact ⟨_, [_], rfl, V, E1a, a0, rfl, rfl, ha0⟩
/-- A machine's value whose lists have been copied. -/
abbrev machA (a1 a2 a3 a4 : Acc) (m : MachP) : Value := .agg #[.int .i64 m.rods, .int .i64 m.levers, .int .i64 m.regs, .int .i64 m.travel, .int .i64 m.opn, .slice a1.A a1.n a1.c, .slice a2.A a2.n a2.c, .slice a3.A a3.n a3.c, .slice a4.A a4.n a4.c]
theorem CopyMachine_okM (m : MachP) (AB AQ AL AW : Option Addr) (cB cQ cL cW : Nat) (h : AH) (R : MachR h AB AQ AL AW m) (h0 : m.buttons.length < 2 ^ 20) (h1 : m.pins.length < 2 ^ 20) (h2 : m.links.length < 2 ^ 20) (h3 : m.weights.length < 2 ^ 20) :
    FnM Try.prog (.func (.func 20) #[] ([] : List Value).toArray) [machV AB AQ AL AW cB cQ cL cW m] h [] (fun v h' M' => ∃ a1 a4 a2 a3 : Acc, M' = [a1.p, a4.p, a2.p, a3.p] ∧ v = machA a1 a2 a3 a4 m
      ∧ AccR 3 1 (m.buttons.flatMap intC) a1 ∧ AccR 36 3 (m.pins.flatMap pinC) a2 ∧ AccR 39 4 (m.links.flatMap linkC) a3 ∧ AccR 3 1 (m.weights.flatMap intC) a4) := by
  refine fnM_body rfl rfl Try.func20 rfl Try.ntmps20 rfl ?_
  refine xp_seq ?_
  refine xp_region rfl ?_
  refine op_box (v := .agg #[.int .i64 _, .int .i64 _, .int .i64 _, .int .i64 _, .int .i64 _, .slice _ _ _, .slice _ _ _, .slice _ _ _, .slice _ _ _]) (cs := [_, _, _, _, _, _, _, _, _]) rfl rfl fun b1 hb1 => ?_
  refine wp_norm [_] rfl ?_
  refine op_alloc (cs := [_, _, _, _, _, _, _, _, _]) rfl rfl fun b2 hb2 => ?_
  refine wp_norm [_, _] rfl ?_
  refine xp_seq ?_
  refine xp_dw [] rfl rfl rfl ?_
  refine dw_pure (i := 0) rfl (by decide +kernel) (pv_fieldAddr rfl rfl rfl rfl 5 rfl) ?_
  refine dw_load (i := 1) rfl (by decide +kernel) ?_
  refine op_loadP 0 (v := .slice _ _ _) rfl rfl rfl rfl ?_
  refine dw_pure (i := 3) rfl (by decide +kernel) (pv_fieldAddr rfl rfl rfl rfl 8 rfl) ?_
  refine dw_load (i := 4) rfl (by decide +kernel) ?_
  refine op_loadP 0 (v := .slice _ _ _) rfl rfl rfl rfl ?_
  refine dw_eff (i := 2) rfl (by decide +kernel) ?_
  refine op_fnV rfl rfl (Ints_okM m.buttons AB cB h (R.b.ext (Ext.refl _)) h0) ?_
  rintro _ g0 _ Vmn G0 ⟨a1, rfl, rfl, ha1⟩
  refine ⟨ext_out Vmn G0, ?_⟩
  refine dw_norm [_, _, _] rfl ?_
  refine dw_pure (i := 6) rfl (by decide +kernel) (pv_fieldAddr rfl rfl rfl rfl 5 rfl) ?_
  refine dw_last (i := 5) rfl (by decide +kernel) (by decide +kernel) ?_
  refine op_fnMM [_, _, _] [] [] rfl rfl rfl (Ints_okM m.weights AW cW g0 (R.w.ext G0) h3) ?_
  rintro _ g1 _ G1 ⟨a4, rfl, rfl, ha4⟩
  refine dw_norm [_, _, _, _] rfl ?_
  refine dw_last (i := 7) rfl (by decide +kernel) (by decide +kernel) ?_
  refine op_storeP 0 (v := .slice _ _ _) (vs := [_]) (c' := [_, _, _, _, _, _, _, _, _]) rfl rfl rfl rfl rfl rfl rfl rfl rfl ?_
  refine dw_norm [_, _, _, _] rfl ?_
  refine dw_pure (i := 8) rfl (by decide +kernel) (pv_fieldAddr rfl rfl rfl rfl 8 rfl) ?_
  refine dw_last (i := 9) rfl (by decide +kernel) (by decide +kernel) ?_
  refine op_storeP 0 (v := .slice _ _ _) (vs := [_]) (c' := [_, _, _, _, _, _, _, _, _]) rfl rfl rfl rfl rfl rfl rfl rfl rfl ?_
  refine dw_norm [_, _, _, _] rfl ?_
  refine dw_end rfl ?_
  refine xp_seq ?_
  refine xp_dw [false, false, false, false, true, true] rfl rfl rfl ?_
  refine dw_pure (i := 1) rfl (by decide +kernel) (pv_fieldAddr rfl rfl rfl rfl 6 rfl) ?_
  refine dw_load (i := 2) rfl (by decide +kernel) ?_
  refine op_loadP 0 (v := .slice _ _ _) rfl rfl rfl rfl ?_
  refine dw_pure (i := 5) rfl (by decide +kernel) (pv_fieldAddr rfl rfl rfl rfl 7 rfl) ?_
  refine dw_load (i := 6) rfl (by decide +kernel) ?_
  refine op_loadP 0 (v := .slice _ _ _) rfl rfl rfl rfl ?_
  refine dw_eff (i := 0) rfl (by decide +kernel) ?_
  refine op_buildSlice (zc := [_, _, _]) (vs := []) (cs := []) rfl rfl rfl rfl rfl rfl rfl fun b11 hb11 => ?_
  refine ⟨ext_newM hb11 _, ?_⟩
  refine dw_norm [_, _, _, _, _] rfl ?_
  refine dw_eff (i := 3) rfl (by decide +kernel) ?_
  refine op_appendR 4 accR_new rfl rfl rfl (fun V => R.q.2.ext (Ext.trans (Ext.trans G0 G1) (ext_wl V))) (flat_len R.q.1) (flat_plain pinP m.pins) rfl rfl rfl rfl rfl rfl rfl (by omega) rfl (by rw [flat_len R.q.1, List.length_nil]; omega) fun a2 h1a E1a ha2 => ?_
  refine ⟨ext_wlm E1a _, ?_⟩
  refine dw_norm [_, _, _, _, _] rfl ?_
  refine dw_pure (i := 8) rfl (by decide +kernel) (pv_fieldAddr rfl rfl rfl rfl 6 rfl) ?_
  refine dw_eff (i := 4) rfl (by decide +kernel) ?_
  refine op_buildSlice (zc := [_, _, _, _]) (vs := []) (cs := []) rfl rfl rfl rfl rfl rfl rfl fun b15 hb15 => ?_
  refine ⟨ext_newM hb15 _, ?_⟩
  refine dw_norm [_, _, _, _, _, _] rfl ?_
  refine dw_last (i := 7) rfl (by decide +kernel) (by decide +kernel) ?_
  refine op_appendR 5 accR_new rfl rfl rfl (fun V => R.l.2.ext (Ext.trans (Ext.trans (Ext.trans G0 G1) E1a) (ext_wl V))) (flat_len R.l.1) (flat_plain linkP m.links) rfl rfl rfl rfl rfl rfl rfl (by omega) rfl (by rw [flat_len R.l.1, List.length_nil]; omega) fun a3 h2a E2a ha3 => ?_
  refine dw_norm [_, _, _, _, _, _] rfl ?_
  refine dw_last (i := 9) rfl (by decide +kernel) (by decide +kernel) ?_
  refine op_storeP 0 (v := .slice _ _ _) (vs := [_]) (c' := [_, _, _, _, _, _, _, _, _]) rfl rfl rfl rfl rfl rfl rfl rfl rfl ?_
  refine dw_norm [_, _, _, _, _, _] rfl ?_
  refine dw_pure (i := 10) rfl (by decide +kernel) (pv_fieldAddr rfl rfl rfl rfl 7 rfl) ?_
  refine dw_last (i := 11) rfl (by decide +kernel) (by decide +kernel) ?_
  refine op_storeP 0 (v := .slice _ _ _) (vs := [_]) (c' := [_, _, _, _, _, _, _, _, _]) rfl rfl rfl rfl rfl rfl rfl rfl rfl ?_
  refine dw_norm [_, _, _, _, _, _] rfl ?_
  refine dw_end rfl ?_
  refine xp_seq ?_
  refine xp_region rfl ?_
  refine op_loadPA 0 (vs := [.int .i64 _, .int .i64 _, .int .i64 _, .int .i64 _, .int .i64 _, .slice _ _ _, .slice _ _ _, .slice _ _ _, .slice _ _ _]) rfl rfl rfl rfl rfl ?_
  refine op_storeP 1 (v := .agg #[.int .i64 _, .int .i64 _, .int .i64 _, .int .i64 _, .int .i64 _, .slice _ _ _, .slice _ _ _, .slice _ _ _, .slice _ _ _]) (vs := [_, _, _, _, _, _, _, _, _]) (c' := [_, _, _, _, _, _, _, _, _]) rfl rfl rfl rfl rfl rfl rfl rfl rfl ?_
  refine wp_norm [_, _, _, _, _, _] rfl ?_
  refine xp_ret ?_
  refine res_list (vs := [_]) Try.results20 ⟨resV_agg 1 rfl rfl rfl rfl rfl (vs := [.int .i64 _, .int .i64 _, .int .i64 _, .int .i64 _, .int .i64 _, .slice _ _ _, .slice _ _ _, .slice _ _ _, .slice _ _ _]) rfl, trivial⟩ fun V => ?_
  obtain ⟨h9, E9, e9, V9⟩ := wl_shed [_, _] [_, _, _, _] V
  exact ⟨h9, _, e9, V9, Ext.trans (Ext.trans (Ext.trans (Ext.trans G0 G1) E1a) E2a) E9, a1, a4, a2, a3, rfl, rfl, ha1, ha2, ha3, ha4⟩
end
end Go.Proofs.Ythphpbdmbmiaiaa
/- The own logic, part U: from a walk to the row of a law. Conditions: none. -/
namespace Go.HL
open Go Go.Wx Go.RowKit
/-- What is asked at the end of a law. -/
def lawK (t : Nat) (h0 : AH) : Post
  | .normal, S, D, L, h => D = [] ∧ (Valid h L → Ext h0 (wl h L)) ∧ S t = .bool true
  | .ret, S, D, L, h => D = [] ∧ (Valid h L → Ext h0 (wl h L)) ∧ S t = .bool true
  | _, _, _, _, _ => False
theorem below_of {w w' : World} (se : SameEnv w w') (e : Ext (absH w.heap) (absH w'.heap)) : Below w.heap.size w w' := by
  have hb : ∀ k, k < w.heap.size → w'.heap[k]? = w.heap[k]? := by
    intro k hk
    have h1 : absH w.heap k = some w.heap[k] := Array.getElem?_eq_getElem hk
    have h2 : w'.heap[k]? = some w.heap[k] := e k _ h1
    rw [h2]
    exact (Array.getElem?_eq_getElem hk).symm
  refine ⟨se.os, se.tape, se.output, ?_, hb⟩
  rcases Nat.lt_or_ge w'.heap.size w.heap.size with h1 | h1
  · have h2 := hb w'.heap.size h1
    rw [Array.getElem?_eq_getElem h1] at h2
    simp at h2
  · exact h1
variable [Lvl]
/-- A slice of ints that came in. -/
theorem row_of {w : World} {a : Option Addr} {len cap : Nat} {zs : List Int} (h : (a = none ∧ len = 0 ∧ cap = 0 ∧ zs = []) ∨
    ∃ x, a = some x ∧ len ≤ cap ∧ cap ≤ maxLen ∧ zs.length = cap ∧ (∀ i, i < zs.length → w.cell? (x.add i) = some (.int .i64 (zs.getD i 0))) ∧ ∀ n ∈ zs, (Lit.int .i64 n).wf = true) :
    ∃ l : List Int, l.length = len ∧ Row (absH w.heap) 1 intC a l ∧ len ≤ maxLen ∧ ∀ n ∈ l, (Lit.int .i64 n).wf = true := by
  rcases h with ⟨rfl, rfl, rfl, rfl⟩ | ⟨x, rfl, hl, hm, hz, hc, hw⟩
  · exact ⟨[], rfl, ⟨fun _ h => (by cases h), Rd.nil _ _⟩, Nat.zero_le _, fun _ h => (by cases h)⟩
  · refine ⟨zs.take len, by rw [List.length_take]; omega, ⟨fun _ _ => rfl, ?_⟩, by omega, fun n hn => hw n (List.mem_of_mem_take hn)⟩
    have hflat : ∀ l : List Int, l.flatMap intC = l.map (Value.int .i64) := by
      intro l
      induction l with
      | nil => rfl
      | cons a l ih => simp [List.flatMap_cons, ih, intC]
    rw [hflat]
    intro hne
    have hpos : 0 < zs.length := by
      rcases Nat.eq_zero_or_pos zs.length with h0 | h0
      · rw [List.eq_nil_of_length_eq_zero h0] at hne; simp at hne
      · exact h0
    obtain ⟨g, off, sp⟩ := x
    have h0 := hc 0 hpos
    have hsp : sp = none := by
      cases sp with
      | none => rfl
      | some s =>
        exfalso
        have : w.cell? ((⟨g, off, some s⟩ : Addr).add 0) = none := by
          simp only [Addr.add]
          rw [cell_abs]
          unfold cellA
          split <;> simp
        rw [this] at h0
        cases h0
    subst hsp
    refine ⟨g, off, rfl, fun j u hu => ?_⟩
    have hj : j < zs.length := by
      have := (List.getElem?_eq_some_iff.1 hu).1
      rw [List.length_map, List.length_take] at this
      omega
    have h1 := hc j hj
    rw [cell_abs, add_none] at h1
    rw [h1]
    rw [List.getElem?_map, List.getElem?_take] at hu
    split at hu
    · rw [List.getElem?_eq_getElem hj] at hu
      simp only [Option.map_some, Option.some.injEq] at hu
      rw [← hu]
      simp [List.getD_eq_getElem?_getD, hj]
    · cases hu
end Go.HL
/- The own logic, part Uc: from a walk to the run of a law that starts goroutines. Conditions: none. -/
namespace Go.HL
open Go Go.Wx Go.RowKit Go.Conc Go.ConcN
/-- The run of a law: it ends, true, and leaves what was there. -/
def RunsTrue (P : Program) (f : FuncId) (args : Array Value) (w : World) : Prop :=
  ∃ M last o w' t', runNT P (M + 1) (solo (G (Frame.enter P f args .normal) []) w) #[] = (.ended o w', t') ∧ runN P M (solo (G (Frame.enter P f args .normal) []) w) = .next last ∧ step P last = .ended o w' ∧
    Go.Conc.Good P (fun v W' => v = .bool true ∧ Below w.heap.size w W') last o w' t'
theorem runs_body {P : Program} {f : FuncId} {fn : Func} {c : Code} {args : Array Value} {n t : Nat} {w : World} (hf : P.funcs[f]? = some fn) (hb : fn.body = some c) (hn : fn.ntmps = n) (ha : Nat.ble args.size n = true) (hr : fn.results = #[.tmp t]) (ht : Nat.blt t n = true) (hi : P.inits.idxOf? f = none)
    (x : ∀ h, h = absH w.heap → @xp ⟨true, none, none⟩ P n none c (lawK t h) (argS args) [] [] h) :
    RunsTrue P f args w := by
  letI : Lvl := ⟨true, none, none⟩
  have he : Frame.enter P f args .normal = mk { (default : Frame) with fn := f, kind := .normal, roundOf := none } n (argS args) [] [.code c] := by
    simp [Frame.enter, mk, hf, hb, hn, enter_tmps n args (Nat.le_of_ble_eq_true ha)]
  have hres : ∀ (S : Sl) (w' : World), S t = .bool true → results fn (arr n S) = .pure (.bool true) := by
    intro S w' hs
    unfold results
    rw [hr, List.mapM_toArray]
    have e1 : (arr n S).getD t undef = .bool true := by rw [arr_getD, if_pos (Nat.lt_of_lt_of_le (Nat.lt_succ_self t) (Nat.le_of_ble_eq_true ht)), hs]
    show Sem.pure ((arr n S).getD t undef) = _
    rw [e1]
  have x1 := x _ rfl (absH w.heap) (by have := Fits.nil (valid_nil (Fin.abs w.heap)); rw [wl_nil] at this; exact this) { (default : Frame) with fn := f, kind := .normal, roundOf := none } rfl [] []
  have x2 : Rch P (fun fr cs' H => cs' = [] ∧ fr.mode = .returning ∧ fr.defers = [] ∧ fr.kind = .normal ∧ fr.fn = f ∧ (∃ S, fr.tmps = arr n S ∧ S t = .bool true) ∧ Ext (absH w.heap) H) (mk { (default : Frame) with fn := f, kind := .normal, roundOf := none } n (argS args) [] [.code c]) [] (absH w.heap) := by
    refine x1.bind ?_
    rintro fr cs' H ⟨rfl, e, S', D', L', h', V', kk, a⟩
    cases e with
    | normal =>
      obtain ⟨rfl, ex, hs⟩ := kk
      have a' : fr = mk { (default : Frame) with fn := f, kind := .normal, roundOf := none } n S' [] [] := a
      subst a'
      have hH : H = wl h' L' := by rw [V'.eq]; exact hun_nil _
      subst hH
      refine .ctl (fr' := { mk { (default : Frame) with fn := f, kind := .normal, roundOf := none } n S' [] [] with mode := .returning }) (cs' := []) (fun w => by simp [stepG, stepG.exec, mk]) (.done ⟨rfl, rfl, rfl, rfl, rfl, ⟨S', rfl, hs⟩, ex V'.valid⟩)
    | ret =>
      obtain ⟨rfl, ex, hs⟩ := kk
      obtain ⟨todo, rfl⟩ := a.1 rfl
      have hH : H = wl h' L' := by rw [V'.eq]; exact hun_nil _
      subst hH
      exact .done ⟨rfl, rfl, rfl, rfl, rfl, ⟨S', rfl, hs⟩, ex V'.valid⟩
    | _ => exact kk.elim
  unfold RunsTrue
  rw [he]
  refine x2.ends rfl rfl ?_
  rintro fr cs h w' ⟨rfl, hm, hd, hk, hfn, ⟨S, htm, hs⟩, ex⟩ se rfl
  have hr1 := hres S w' hs
  have hru : (results fn fr.tmps).runT P w' #[] = (.ok (.bool true) w', #[]) := by rw [htm, hr1]; rfl
  have hf' : P.funcs[fr.fn]? = some fn := by rw [hfn]; exact hf
  have hi' : P.inits.idxOf? fr.fn = none := by rw [hfn]; exact hi
  have h1 : stepG P true (G fr []) w' = unwind P true fr [] none w' := by
    simp [stepG, stepG.exec, hm]
  have h2 : unwind P true fr [] none w' = GStep.after (seen P fr.fn #[]) (.ended (.done (.bool true)) w') := by
    unfold unwind
    rw [hd]
    simp only [hm, hf', hru]
    unfold doReturn
    simp only [hk, hi']
    rfl
  refine ⟨rfl, .bool true, seen P fr.fn #[], ?_, fun e he => ?_, rfl, below_of se ex⟩
  · rw [h1, h2]
    simp [GStep.after]
  · simp [seen] at he
end Go.HL
/- Plain: machines that pass the check; what levers do. Conditions: none. -/
namespace Go.Rd
open Go Go.HL Go.Wx
variable [Lvl]
theorem chk_of {m : MachP} (M : MOK m) : chkM m = 0 := by
  unfold chkM
  have h := M.rods; have h2 := M.levers; have h3 := M.regs; have h4 := M.travel; have h5 := M.opn
  rw [if_neg (by simp [inM]; omega), if_neg (by simp [inM]; omega), if_neg (by simp [inM]; omega), if_neg (by simp [inM]; omega), if_neg (by simp [inM]; omega)]
  have b1 : firstErr (checkButtonM m) m.buttons = 0 := firstErr_iff.2 fun b hb => by
    have := M.btn b hb
    unfold checkButtonM
    rw [if_neg (by simp [inM]; omega)]
  have b2 : firstErr (checkPinM m) m.pins = 0 := firstErr_iff.2 fun p hp => by
    obtain ⟨a, b, c⟩ := M.pin p hp
    unfold checkPinM
    rw [if_neg (by simp [inM]; omega), if_neg (by simp [inM]; omega), if_neg (by simp [inM]; omega)]
  have b3 : firstErr (checkLinkM m) m.links = 0 := firstErr_iff.2 fun l hl => by
    obtain ⟨a, b, c, d, e⟩ := M.link l hl
    unfold checkLinkM
    rw [if_neg (by simp [inM]; omega), if_neg (by simp [inM]; omega), if_neg c, if_neg (by simp [inM]; omega), if_neg (by simp [inM]; omega)]
  have b4 : firstErr checkWeightM m.weights = 0 := firstErr_iff.2 fun w hw => by
    have := M.wt w hw
    unfold checkWeightM
    rw [if_neg (by simp [inM]; omega)]
  rw [if_neg (by have := M.bl; omega), b1, if_neg (by decide), if_neg (by have := M.pl; omega), b2, if_neg (by decide), if_neg (by have := M.ll; omega), b3, if_neg (by decide), if_neg (by have := M.wl; omega), b4]
theorem hand_of {m : MachP} {a : HandP} (M : MOK m) (H : HOK m a) : checkHandM m a = 0 := by
  unfold checkHandM
  rw [chk_of M, if_neg (by decide), checkSet_iff.2 H.b, if_neg (by decide), checkSet_iff.2 H.o]
theorem MOK.wlen {m : MachP} (M : MOK m) : m.weights.length < 2 ^ 40 := by have := M.wl; have := M.levers; omega
theorem HOK.blen {m : MachP} {a : HandP} (M : MOK m) (H : HOK m a) : a.buttons.length < 2 ^ 40 := by have := set_len H.b; have := M.bl; omega
theorem HOK.olen {m : MachP} {a : HandP} (M : MOK m) (H : HOK m a) : a.on.length < 2 ^ 40 := by
  have := M.regs
  have := set_len (below := m.regs.toNat) (by rw [Int.toNat_of_nonneg (by omega)]; exact H.o)
  omega
theorem MOK.pins {m : MachP} (M : MOK m) : ∀ p ∈ m.pins, 0 ≤ p.lever ∧ 0 ≤ p.rod := fun p hp => ⟨(M.pin p hp).2.1.1, (M.pin p hp).1.1⟩
theorem MOK.cap {m : MachP} (M : MOK m) {ps : List PinP} {ls : List LinkP} (hp : ps.length ≤ 8) (hl : ls.length ≤ 4)
    (h1 : ∀ p ∈ ps, (0 ≤ p.rod ∧ p.rod < m.rods) ∧ (0 ≤ p.lever ∧ p.lever < m.levers) ∧ (0 ≤ p.lag ∧ p.lag ≤ m.travel))
    (h2 : ∀ l ∈ ls, (0 ≤ l.frm ∧ l.frm < m.rods) ∧ (0 ≤ l.to ∧ l.to < m.rods) ∧ l.frm ≠ l.to ∧ (-1 ≤ l.reg ∧ l.reg < m.regs) ∧ (1 ≤ l.lag ∧ l.lag ≤ m.travel)) : MOK { m with pins := ps, links := ls } :=
  ⟨M.rods, M.levers, M.regs, M.travel, M.opn, M.bl, M.btn, hp, h1, hl, h2, M.wl, M.wt⟩
end Go.Rd
/- The own logic, part GS: a part of an array as a slice. Conditions: none. -/
namespace Go.HL
open Go
variable [Lvl]
theorem rd_take {H : AH} {A : Option Addr} {cs : List Value} (r : Rd H A cs) (k : Nat) : Rd H A (cs.take k) := fun hne => by
  obtain ⟨g, off, ha, c⟩ := r (fun e => hne (by rw [e, List.take_nil]))
  refine ⟨g, off, ha, fun j u hu => c j u ?_⟩
  rw [List.getElem?_take] at hu
  split at hu
  · exact hu
  · cases hu
section
variable {P : Program} {n : Nat} {d : Option Tmp} {ty : TypeId} {ps : String} {af : Array Edge} {S : Sl}
theorem pv_sliceAH {x hi : Operand} {t e : TypeId} {len m g off : Nat} (j : Nat) {k : IntKind} {j' : Int} (hx : ev n S x = .pointer (some ⟨g, off, none⟩)) (hh : ev n S hi = .int k j') (ej : j' = j) (ht : pev P (underlying t) = some (.array len e)) (hs : pev P (sizeOf e) = some m) (hl : 0 < len) (hj : j ≤ len) :
    pev P (execOp (ev n S) ⟨d, .slice t x none (some hi) none, ty, ps, af, none⟩) = some (.value (.slice (some ⟨g, off, none⟩) j len)) := by
  subst ej
  simp only [execOp, hx, hh, Option.map]
  refine (pev_bind (a := .slice (some ⟨g, off, none⟩) j len) ?_).trans rfl
  unfold Instr.sliceAt
  refine (pev_mbind ht).trans ?_
  simp only
  refine (pev_mbind (a := ⟨g, off, none⟩) rfl).trans ?_
  have hb : pev P (Instr.sliceBounds false len len none (some (.int k (j : Int))) none) = some (0, j, len) := by
    unfold Instr.sliceBounds
    refine (pev_mbind (a := len) rfl).trans ?_
    have h1 : pev P (Instr.sliceBound (.int k (j : Int)) len .sliceAlen) = some j := by
      unfold Instr.sliceBound
      refine (pev_mbind (a := (k, (j : Int))) rfl).trans ?_
      simp only
      rw [if_pos ⟨by omega, by omega⟩]
      rfl
    refine (pev_mbind h1).trans ?_
    rfl
  refine (pev_mbind hb).trans ?_
  simp only
  refine (pev_mbind hs).trans ?_
  have e0 : (if len = 0 then (⟨g, off, none⟩ : Addr) else (⟨g, off, none⟩ : Addr).add (0 * m)) = ⟨g, off, none⟩ := by rw [if_neg (by omega)]; simp [Addr.add]
  show some (Value.slice (some (if len = 0 then (⟨g, off, none⟩ : Addr) else (⟨g, off, none⟩ : Addr).add (0 * m))) (j - 0) (len - 0)) = _
  rw [e0]
  rfl
end
end Go.HL
/- Walks of package rod: how far rods turn. Conditions: as each theorem states. -/
namespace Go.Proofs.Ythphpbdmbmiaiaa
open Go Go.HL Go.Proofs Go.Wx Go.Rd
section
variable [Lvl]
set_option maxRecDepth 100000
theorem plain_take {cs : List Value} (k : Nat) (h : cs.all plainB = true) : (cs.take k).all plainB = true := by
  rw [List.all_eq_true] at h ⊢
  exact fun x hx => h x (List.mem_of_mem_take hx)
def turnsL (m : MachP) (a : HandP) : List Int := if checkHandM m a = 0 then (turnedM m a m.travel).take m.rods.toNat else []
theorem Turns_ok (hph : Lvl.ph = true) (m : MachP) (a : HandP) (AB AQ AL AW HA OA : Option Addr) (cB cQ cL cW cH cO : Nat) (h : AH) (RM : MachR h AB AQ AL AW m) (RH : HandR h HA OA a) (h0 : m.weights.length < 2 ^ 40) (h1 : a.buttons.length < 2 ^ 40) (h2 : a.on.length < 2 ^ 40) :
    FnT Try.prog 29 #[machV AB AQ AL AW cB cQ cL cW m, handV HA OA cH cO a] h (fun v h' => ∃ L, v = .tuple #[L, .int .i64 (checkHandM m a)] ∧ SlR h' 1 intC (turnsL m a) L) := by
  refine call_body Try.func29 rfl Try.ntmps29 rfl ?_
  refine xp_seq ?_
  refine xp_region rfl ?_
  refine op_box (v := .agg #[.int .i64 _, .int .i64 _, .int .i64 _, .int .i64 _, .int .i64 _, .slice _ _ _, .slice _ _ _, .slice _ _ _, .slice _ _ _]) (cs := [_, _, _, _, _, _, _, _, _]) rfl rfl fun b2 hb2 => ?_
  refine wp_norm [_] rfl ?_
  refine op_box (v := .agg #[.slice _ _ _, .slice _ _ _]) (cs := [_, _]) rfl rfl fun b3 hb3 => ?_
  refine wp_norm [_, _] rfl ?_
  refine op_pure (pv_assign (v := .slice _ _ _) rfl) ?_
  refine op_pure (pv_assign (v := .int .i64 _) rfl) ?_
  refine xp_seq ?_
  refine xp_seq ?_
  refine xp_region rfl ?_
  refine op_loadPA 0 (vs := [.int .i64 _, .int .i64 _, .int .i64 _, .int .i64 _, .int .i64 _, .slice _ _ _, .slice _ _ _, .slice _ _ _, .slice _ _ _]) rfl rfl rfl rfl rfl ?_
  refine op_loadPA 1 (vs := [.slice _ _ _, .slice _ _ _]) rfl rfl rfl rfl rfl ?_
  refine op_fn (caps := []) (vs := [.agg #[.int .i64 _, .int .i64 _, .int .i64 _, .int .i64 _, .int .i64 _, .slice _ _ _, .slice _ _ _, .slice _ _ _, .slice _ _ _], .agg #[.slice _ _ _, .slice _ _ _]]) rfl rfl rfl (checkHand_ok m a AB AQ AL AW HA OA cB cQ cL cW cH cO h (RM.ext (Ext.refl _)) (RH.ext (Ext.refl _)) h0 h1 h2) ?_
  rintro _ h3 E3 rfl
  refine op_pure (pv_assign (v := .int .i64 _) rfl) ?_
  refine xp_seq ?_
  refine xp_region rfl ?_
  refine op_pure (pv_move (v := .int .i64 _) rfl) ?_
  refine op_pure (pv_of (v := .bool _) rfl) ?_
  refine xp_cond rfl (fun hc => ?_) (fun hc => ?_)
  · skip
    have hc' : checkHandM m a ≠ 0 := by simpa using hc
    refine xp_seq ?_
    refine xp_region rfl ?_
    refine op_pure (pv_move (v := .int .i64 _) rfl) ?_
    refine op_pure (pv_assign (v := .slice _ _ _) rfl) ?_
    refine op_pure (pv_assign (v := .int .i64 _) rfl) ?_
    refine xp_ret ?_
    refine res_list (vs := [_, _]) Try.results29 ⟨resV_tmp rfl rfl, resV_tmp rfl rfl, trivial⟩ fun V => ?_
    exact ⟨(Ext.trans E3 (ext_wl V)), _, rfl, by rw [turnsL, if_neg hc']; exact ⟨none, 0, rfl, fun _ _ => rfl, Rd.nil _ _⟩⟩
  · skip
    have hc' : checkHandM m a = 0 := by simpa using hc
    obtain ⟨M, H⟩ := checkHand_ok0 hc'
    have F := fit_of M H
    have tr := M.travel
    have rd := M.rods
    obtain ⟨t0, t1, t2, t3, t4, t5, et⟩ := len6 (turned_len m a m.travel)
    refine xp_skip ?_
    refine xp_seq ?_
    refine xp_region rfl ?_
    refine op_loadPA 0 (vs := [.int .i64 _, .int .i64 _, .int .i64 _, .int .i64 _, .int .i64 _, .slice _ _ _, .slice _ _ _, .slice _ _ _, .slice _ _ _]) rfl rfl rfl rfl rfl ?_
    refine op_loadPA 1 (vs := [.slice _ _ _, .slice _ _ _]) rfl rfl rfl rfl rfl ?_
    refine op_pure (pv_fieldAddr rfl rfl rfl rfl 3 rfl) ?_
    refine op_loadP 0 (v := .int .i64 _) rfl rfl rfl rfl ?_
    have TT := turned_ok (cB := cB) (cQ := cQ) (cL := cL) (cW := cW) (cH := cH) (cO := cO) hph F (by omega) tr.2 h3 (RH.ext E3) (RM.ext E3)
    rw [et] at TT
    refine op_fn (caps := []) (vs := [.agg #[.int .i64 _, .int .i64 _, .int .i64 _, .int .i64 _, .int .i64 _, .slice _ _ _, .slice _ _ _, .slice _ _ _, .slice _ _ _], .agg #[.slice _ _ _, .slice _ _ _], .int .i64 _]) rfl rfl rfl (TT) ?_
    rintro _ h4 E4 rfl
    refine op_alloc (cs := [_, _, _, _, _, _]) rfl rfl fun b7 hb7 => ?_
    refine wp_norm [_, _, _] rfl ?_
    refine op_storeP 2 (v := .agg #[.int .i64 _, .int .i64 _, .int .i64 _, .int .i64 _, .int .i64 _, .int .i64 _]) (vs := [_, _, _, _, _, _]) (c' := [_, _, _, _, _, _]) rfl rfl rfl rfl rfl rfl rfl rfl rfl ?_
    refine wp_norm [_, _, _] rfl ?_
    refine xp_seq ?_
    refine xp_region rfl ?_
    refine op_buildSlice (zc := [_]) (vs := []) (cs := []) rfl rfl rfl rfl rfl rfl rfl fun b19 hb19 => ?_
    refine wp_norm [_, _, _, _] rfl ?_
    refine op_pure (pv_fieldAddr rfl rfl rfl rfl 0 rfl) ?_
    refine op_loadP 0 (v := .int .i64 _) rfl rfl rfl rfl ?_
    refine op_pure (pv_sliceAH m.rods.toNat rfl rfl (by omega) rfl rfl (by omega) (by omega)) ?_
    have hl6 : (List.take m.rods.toNat [Value.int .i64 t0, .int .i64 t1, .int .i64 t2, .int .i64 t3, .int .i64 t4, .int .i64 t5]).length = m.rods.toNat * 1 := by rw [List.length_take]; simp; omega
    refine op_appendR 3 accR_new rfl rfl rfl (fun V => rd_take (rdP V (i := 2) rfl) m.rods.toNat) hl6 (plain_take m.rods.toNat rfl) rfl rfl rfl rfl rfl rfl rfl (by omega) rfl (by rw [hl6, List.length_nil]; omega) fun a2 h1a E1a ha2 => ?_
    refine wp_norm [_, _, _, _] rfl ?_
    refine op_pure (pv_assign (v := .slice _ _ _) rfl) ?_
    refine op_pure (pv_assign (v := .int .i64 _) rfl) ?_
    refine xp_ret ?_
    refine res_list (vs := [_, _]) Try.results29 ⟨resV_tmp rfl rfl, resV_tmp rfl rfl, trivial⟩ fun V => ?_
    refine ⟨(Ext.trans (Ext.trans (Ext.trans E3 E4) E1a) (ext_wl V)), .slice a2.A a2.n a2.c, by rw [hc']; rfl, ?_⟩
    have e2 : ([] : List Value) ++ List.take m.rods.toNat [Value.int .i64 t0, .int .i64 t1, .int .i64 t2, .int .i64 t3, .int .i64 t4, .int .i64 t5] = (turnsL m a).flatMap intC := by rw [turnsL, if_pos hc', et, List.nil_append, flat_intC, tV, List.map_take]; rfl
    rw [e2] at ha2
    exact AccP.row (i := 3) ha2 (by omega) (fun _ _ => rfl) V rfl
end
end Go.Proofs.Ythphpbdmbmiaiaa
/- Walks: turns, step by step. Conditions: as each theorem states. -/
namespace Go.Proofs.Ythphpbdmbmiaiaa
open Go Go.HL Go.Proofs Go.Wx Go.Rd
section
variable [Lvl]
set_option maxRecDepth 100000
theorem down_succ {m : MachP} {a : HandP} {r : Int} {k : Nat} (h : k < a.buttons.length) : downN m a r (k + 1) = if m.buttons.getD a.buttons[k].toNat 0 = r then m.travel else downN m a r k := by
  rw [downN, List.getElem?_eq_getElem h]
theorem most_succ {m : MachP} {a : HandP} {r : Int} {t : Int → Int} {k : Nat} (h : k < m.links.length) : mostN m a r t (k + 1) = if m.links[k].to = r ∧ active a.on m.links[k] = true then max (mostN m a r t k) (t m.links[k].frm - m.links[k].lag) else mostN m a r t k := by
  rw [mostN, List.getElem?_eq_getElem h]
theorem turns_len {m : MachP} {a : HandP} (M : MOK m) (H : HOK m a) : (turnsL m a).length = m.rods.toNat := by
  have := M.rods
  rw [turnsL, if_pos (hand_of M H), List.length_take, turned_len]
  omega
theorem turns_at {m : MachP} {a : HandP} (M : MOK m) (H : HOK m a) {k : Nat} (hk : k < (turnsL m a).length) : (turnsL m a)[k] = turnF m a m.travel k := by
  have h6 := turned_len m a m.travel
  have e : turnsL m a = (turnedM m a m.travel).take m.rods.toNat := by rw [turnsL, if_pos (hand_of M H)]
  have hl := turns_len M H
  have hr := M.rods
  unfold turnF
  rw [Int.toNat_natCast, List.getD_eq_getElem?_getD, List.getElem?_eq_getElem (by omega)]
  simp only [e, List.getElem_take]
  rfl
theorem down_bd {m : MachP} {a : HandP} {r : Int} (ht : 0 ≤ m.travel) : ∀ k, 0 ≤ downN m a r k ∧ downN m a r k ≤ m.travel
  | 0 => by simp [downN]; exact ht
  | k + 1 => by
    have := down_bd (r := r) (a := a) ht k
    unfold downN
    split
    · split
      · omega
      · exact this
    · exact this
theorem act_or (on : List Int) (l : LinkP) : active on l = (decide (l.reg < 0) || decide (l.reg ∈ on)) := by
  unfold active
  rw [Bool.eq_iff_iff]
  simp
theorem down_bare (m : MachP) (a : HandP) (r : Int) : ∀ k, downN { m with links := [] } a r k = downN m a r k
  | 0 => rfl
  | k + 1 => by
    unfold downN
    rw [down_bare m a r k]
theorem most_bd {m : MachP} {a : HandP} {r : Int} (F : Fit m a) (ht : 0 ≤ m.travel) : ∀ {k : Nat}, k ≤ m.links.length → 0 ≤ mostN m a r (turnF m a m.travel) k ∧ mostN m a r (turnF m a m.travel) k ≤ m.travel
  | 0, _ => down_bd ht _
  | k + 1, h => by
    have := most_bd (r := r) F ht (k := k) (by omega)
    rw [most_succ (by omega)]
    split
    · have h2 := (turnF_bd F ht m.links[k].frm).2
      have h3 := F.lag _ (List.getElem_mem (by omega : k < m.links.length))
      omega
    · exact this
set_option maxHeartbeats 8000000 in
theorem steps_runs (w : World) (l : List Int) (hl : l.length < 2 ^ 63) (A : Option Addr) (c : Nat) (R : Row (absH w.heap) 1 intC A l) : RunsTrue Try.prog 4 #[.slice A l.length c] w := by
  letI : Lvl := ⟨true, none, none⟩
  refine runs_body Try.func4 rfl Try.ntmps4 rfl Try.results4 rfl (by kernel_rfl) fun h hh => ?_
  rw [← hh] at R
  refine xp_seq ?_
  refine xp_region rfl ?_
  refine op_pure (pv_assign (v := .bool _) rfl) ?_
  refine xp_seq ?_
  refine xp_region rfl ?_
  refine op_pure (pv_move (v := .slice _ _ _) rfl) ?_
  refine op_fnMM [] [] [] rfl rfl rfl ((NewPot_ok l hl A c h R)) ?_
  rintro _ h1 _ E1 ⟨b, x, rfl, rfl⟩
  refine wp_norm [_] rfl ?_
  refine op_pure (pv_assign (v := .pointer _) rfl) ?_
  refine xp_seq ?_
  refine xp_region rfl ?_
  refine op_pure (pv_move (v := .pointer _) rfl) ?_
  refine op_fnMM [] [_] [] (vs := _) rfl rfl rfl ((MachineOf_ok b x 6 4 4 (by omega) (by omega) (by omega) h1)) ?_
  rintro _ h2 _ E2 ⟨x2, m, rfl, VM, Md⟩
  refine wp_norm [_] rfl ?_
  obtain ⟨AB, AQ, AL, AW, cB, cQ, cL, cW, rfl, RM⟩ := VM.open
  have M := Md.ok
  have mbl := Md.bl
  have mpl := Md.pl
  have mll := Md.ll
  have mrd := M.rods
  have mlv := M.levers
  have mrg := M.regs
  have mtr := M.travel
  have mwl := M.wl
  refine op_alloc (cs := [_, _, _, _, _, _, _, _, _]) rfl rfl fun b4 hb4 => ?_
  refine wp_norm [_, _] rfl ?_
  refine op_storeP 1 (v := .agg #[.int .i64 _, .int .i64 _, .int .i64 _, .int .i64 _, .int .i64 _, .slice _ _ _, .slice _ _ _, .slice _ _ _, .slice _ _ _]) (vs := [_, _, _, _, _, _, _, _, _]) (c' := [_, _, _, _, _, _, _, _, _]) rfl rfl rfl rfl rfl rfl rfl rfl rfl ?_
  refine wp_norm [_, _] rfl ?_
  refine xp_seq ?_
  refine xp_region rfl ?_
  refine op_pure (pv_move (v := .pointer _) rfl) ?_
  refine op_loadPA 1 (vs := [.int .i64 _, .int .i64 _, .int .i64 _, .int .i64 _, .int .i64 _, .slice _ _ _, .slice _ _ _, .slice _ _ _, .slice _ _ _]) rfl rfl rfl rfl rfl ?_
  refine op_fnMM [] [_] [_] (vs := _) rfl rfl rfl ((HandOf_ok b x2 m (by omega) (by omega) AB AQ AL AW cB cQ cL cW h2)) ?_
  rintro _ h3 _ E3 ⟨x3, a, rfl, VH, H⟩
  refine wp_norm [_, _] rfl ?_
  obtain ⟨HA, OA, cH, cO, rfl, RH⟩ := VH.open
  have F := fit_of M H
  have abl := set_len H.b
  obtain ⟨tl, htl⟩ : ∃ t, t = turnsL m a := ⟨_, rfl⟩
  have tll : tl.length = m.rods.toNat := by rw [htl]; exact turns_len M H
  have tat : ∀ k (hk : k < tl.length), tl[k] = turnF m a m.travel k := fun k hk => by subst htl; exact turns_at M H hk
  have L1 := Turns_ok rfl m a AB AQ AL AW HA OA cB cQ cL cW cH cO
  rw [hand_of M H, ← htl] at L1
  refine op_alloc (cs := [_, _]) rfl rfl fun b5 hb5 => ?_
  refine wp_norm [_, _, _] rfl ?_
  refine op_storeP 2 (v := .agg #[.slice _ _ _, .slice _ _ _]) (vs := [_, _]) (c' := [_, _]) rfl rfl rfl rfl rfl rfl rfl rfl rfl ?_
  refine wp_norm [_, _, _] rfl ?_
  refine xp_seq ?_
  refine xp_region rfl ?_
  refine op_loadPA 1 (vs := [.int .i64 _, .int .i64 _, .int .i64 _, .int .i64 _, .int .i64 _, .slice _ _ _, .slice _ _ _, .slice _ _ _, .slice _ _ _]) rfl rfl rfl rfl rfl ?_
  refine op_loadPA 2 (vs := [.slice _ _ _, .slice _ _ _]) rfl rfl rfl rfl rfl ?_
  refine op_fn (caps := []) (vs := [.agg #[.int .i64 _, .int .i64 _, .int .i64 _, .int .i64 _, .int .i64 _, .slice _ _ _, .slice _ _ _, .slice _ _ _, .slice _ _ _], .agg #[.slice _ _ _, .slice _ _ _]]) rfl rfl rfl (L1 h3 (RM.ext E3) (RH.ext (Ext.refl _)) M.wlen (H.blen M) (H.olen M)) ?_
  rintro _ h4 E4 ⟨_, rfl, A4, c4, rfl, S4⟩
  refine op_pure (pv_move (v := .tuple #[.slice _ _ _, .int .i64 _]) rfl) ?_
  refine op_pure (pv_of (v := .slice _ _ _) rfl) ?_
  refine op_pure (pv_of (v := .int .i64 _) rfl) ?_
  refine op_pure (pv_assign (v := .slice _ _ _) rfl) ?_
  refine op_pure (pv_assign (v := .int .i64 _) rfl) ?_
  refine xp_seq ?_
  refine xp_region rfl ?_
  refine op_loadPA 1 (vs := [.int .i64 _, .int .i64 _, .int .i64 _, .int .i64 _, .int .i64 _, .slice _ _ _, .slice _ _ _, .slice _ _ _, .slice _ _ _]) rfl rfl rfl rfl rfl ?_
  refine op_fnMM [_, _, _] [] [] rfl rfl rfl (CopyMachine_okM m AB AQ AL AW cB cQ cL cW h4 (RM.ext (Ext.trans E3 E4)) (by omega) (by omega) (by omega) (by omega)) ?_
  rintro _ h5 _ E5 ⟨a1, a4, a2, a3, rfl, rfl, ha1, ha2, ha3, ha4⟩
  refine wp_norm [_, _, _, _, _, _, _] rfl ?_
  refine op_alloc (cs := [_, _, _, _, _, _, _, _, _]) rfl rfl fun b8 hb8 => ?_
  refine wp_norm [_, _, _, _, _, _, _, _] rfl ?_
  refine op_storeP 7 (v := .agg #[.int .i64 _, .int .i64 _, .int .i64 _, .int .i64 _, .int .i64 _, .slice _ _ _, .slice _ _ _, .slice _ _ _, .slice _ _ _]) (vs := [_, _, _, _, _, _, _, _, _]) (c' := [_, _, _, _, _, _, _, _, _]) rfl rfl rfl rfl rfl rfl rfl rfl rfl ?_
  refine wp_norm [_, _, _, _, _, _, _, _] rfl ?_
  obtain ⟨p1, A1, n1, c1⟩ := a1
  obtain ⟨p4, AA4, n4, cc4⟩ := a4
  obtain ⟨p2, A2, n2, c2⟩ := a2
  obtain rfl : n1 = m.buttons.length := by have := AccR.len ha1; rw [flat_len (m := 1) (fun _ _ => rfl)] at this; dsimp only at this; omega
  obtain rfl : n4 = m.weights.length := by have := AccR.len ha4; rw [flat_len (m := 1) (fun _ _ => rfl)] at this; dsimp only at this; omega
  obtain rfl : n2 = m.pins.length := by have := AccR.len ha2; rw [flat_len (m := 3) (fun _ _ => rfl)] at this; dsimp only at this; omega
  dsimp only at *
  refine goes_pubO 3 rfl ?_
  intro g1 G1 P1
  refine goes_norm [_, _, _, _, _, _, _, _] rfl ?_
  refine goes_pubO 4 rfl ?_
  intro g4 G4 P4
  refine goes_norm [_, _, _, _, _, _, _, _] rfl ?_
  refine goes_pubO 5 rfl ?_
  intro g5 G5 P5
  refine goes_norm [_, _, _, _, _, _, _, _] rfl ?_
  obtain ⟨mb, hmb⟩ : ∃ mb : MachP, mb = { m with links := [] } := ⟨_, rfl⟩
  have RX : MachR g5 A1 A2 none AA4 mb := by
    subst hmb
    exact ⟨⟨fun _ _ => rfl, (AccR.rd ha1 P1).ext (Ext.trans G4 G5)⟩, ⟨fun _ _ => rfl, AccR.rd ha2 P5⟩, ⟨fun _ _ => rfl, Rd.nil _ _⟩, ⟨fun _ _ => rfl, (AccR.rd ha4 P4).ext G5⟩⟩
  have MB : MOK mb := by
    subst hmb
    exact M.cap M.pl (by simp) M.pin (fun _ h => absurd h List.not_mem_nil)
  have HB : HOK mb a := by
    subst hmb
    exact ⟨H.b, H.o⟩
  have FB := fit_of MB HB
  obtain ⟨ul, hul⟩ : ∃ t, t = turnsL mb a := ⟨_, rfl⟩
  have ull : ul.length = m.rods.toNat := by rw [hul, turns_len MB HB, hmb]
  have uat : ∀ k (hk : k < ul.length), ul[k] = downN m a k a.buttons.length := fun k hk => by
    have hh := hmb
    subst hul
    rw [turns_at MB HB hk, turn_most FB (by have := MB.travel; omega) (by omega)]
    subst hh
    rw [show mostN { m with links := [] } a (k : Int) (turnF { m with links := [] } a m.travel) ([] : List LinkP).length = downN { m with links := [] } a k a.buttons.length from rfl]
    exact down_bare m a k a.buttons.length
  have L2 := Turns_ok rfl mb a A1 A2 none AA4 HA OA c1 c2 0 cc4 cH cO
  rw [hand_of MB HB, ← hul] at L2
  subst hmb
  have d1 : ((tl.length : Int) != m.rods) = false := by simp; omega
  have d2 : ((ul.length : Int) != m.rods) = false := by simp; omega
  refine xp_seq ?_
  refine xp_region rfl ?_
  refine op_pure (pv_fieldAddr rfl rfl rfl rfl 7 rfl) ?_
  refine op_storeP 7 (v := .slice _ _ _) (vs := [_]) (c' := [_, _, _, _, _, _, _, _, _]) rfl rfl rfl rfl rfl rfl rfl rfl rfl ?_
  refine wp_norm [_, _, _, _, _, _, _, _] rfl ?_
  refine xp_seq ?_
  refine xp_region rfl ?_
  refine op_loadPA 7 (vs := [.int .i64 _, .int .i64 _, .int .i64 _, .int .i64 _, .int .i64 _, .slice _ _ _, .slice _ _ _, .slice _ _ _, .slice _ _ _]) rfl rfl rfl rfl rfl ?_
  refine op_loadPA 2 (vs := [.slice _ _ _, .slice _ _ _]) rfl rfl rfl rfl rfl ?_
  refine op_fn (caps := []) (vs := [.agg _, .agg _]) rfl rfl rfl (L2 g5 (RX.ext (Ext.refl _)) (RH.ext (Ext.trans (Ext.trans (Ext.trans (Ext.trans E4 E5) G1) G4) G5)) MB.wlen (HB.blen MB) (HB.olen MB)) ?_
  rintro _ h6 E6 ⟨_, rfl, A6, c6, rfl, S6⟩
  refine op_pure (pv_move (v := .tuple #[.slice _ _ _, .int .i64 _]) rfl) ?_
  refine op_pure (pv_of (v := .slice _ _ _) rfl) ?_
  refine op_pure (pv_of (v := .int .i64 _) rfl) ?_
  refine op_pure (pv_assign (v := .slice _ _ _) rfl) ?_
  refine op_pure (pv_assign (v := .int .i64 _) rfl) ?_
  refine xp_seq ?_
  refine xp_seq ?_
  refine xp_region rfl ?_
  refine op_pure (pv_move (v := .int .i64 _) rfl) ?_
  refine op_pure (pv_of (v := .bool _) rfl) ?_
  refine op_pure (pv_move (v := .bool _) rfl) ?_
  refine guard_yes rfl rfl ?_
  refine op_pure (pv_move (v := .int .i64 _) rfl) ?_
  refine guard_yes rfl rfl ?_
  refine op_pure (pv_of (v := .bool _) rfl) ?_
  refine op_pure (pv_pickF rfl rfl (v := .bool _) rfl) ?_
  refine op_pure (pv_move (v := .bool _) rfl) ?_
  refine guard_yes rfl rfl ?_
  refine op_pure (pv_move (v := .slice _ _ _) rfl) ?_
  refine guard_yes rfl rfl ?_
  refine op_pure (pv_len rfl rfl) ?_
  refine guard_yes rfl rfl ?_
  refine op_pure (pv_fieldAddr rfl rfl rfl rfl 0 rfl) ?_
  refine guard_yes rfl rfl ?_
  refine op_loadP 1 (v := .int .i64 _) rfl rfl rfl rfl ?_
  refine guard_yes rfl rfl ?_
  refine op_pure (pv_of (v := .bool _) rfl) ?_
  refine op_pure (pv_pickF rfl rfl (v := .bool _) rfl) ?_
  refine op_pure (pv_move (v := .bool _) rfl) ?_
  refine guard_yes rfl d1 ?_
  refine op_pure (pv_move (v := .slice _ _ _) rfl) ?_
  refine guard_yes rfl d1 ?_
  refine op_pure (pv_len rfl rfl) ?_
  refine guard_yes rfl d1 ?_
  refine op_pure (pv_fieldAddr rfl rfl rfl rfl 0 rfl) ?_
  refine guard_yes rfl d1 ?_
  refine op_loadP 1 (v := .int .i64 _) rfl rfl rfl rfl ?_
  refine guard_yes rfl d1 ?_
  refine op_pure (pv_of (v := .bool _) rfl) ?_
  refine op_pure (pv_pickF rfl d1 (v := .bool _) rfl) ?_
  refine xp_condF rfl (d2) ?_
  refine xp_skip ?_
  refine xp_seq ?_
  refine xp_seq ?_
  refine xp_region rfl ?_
  refine op_pure (pv_assign (v := .int .i64 _) rfl) ?_
  refine xp_block ?_
  refine xp_loopB [2, 11, 12, 13, 14, 15, 16, 59, 60, 61, 62, 63, 64, 65, 66, 67, 68, 69, 70, 71, 72, 73, 74, 75, 76, 77, 78, 79, 80, 81, 82, 83, 84, 85, 86, 87, 88, 89, 90, 91, 92, 93, 94, 95, 96, 97, 98, 99, 100, 101, 102, 103, 104, 105, 106, 107, 108, 109, 110, 111, 112, 113, 114, 115, 116, 117, 118, 119, 120, 121, 122, 123, 124, 125, 126, 127, 128, 129, 130, 131, 132, 133, 134, 135, 136, 137, 138] 8 (α := Nat) (fun r => [(11, .int .i64 r)]) (fun r => _) (fun r h_r => r ≤ m.rods.toNat) (fun r => m.rods.toNat - r) (0) ⟨rfl, trivial⟩ (rfl) (Nat.zero_le _) ?_
  rintro r T1 h_r E_r J_r
  refine goes_norm [_, _, _, _, _, _, _, _] rfl ?_
  refine xp_seq ?_
  refine xp_seq ?_
  refine xp_region rfl ?_
  refine op_pure (pv_move (v := .int .i64 _) rfl) ?_
  refine op_pure (pv_fieldAddr rfl rfl rfl rfl 0 rfl) ?_
  refine op_loadP 1 (v := .int .i64 _) rfl rfl rfl rfl ?_
  refine op_pure (pv_of (v := .bool _) rfl) ?_
  refine xp_cond rfl (fun hr => ?_) (fun hr => ?_)
  · skip
    have hrl : (r : Int) < m.rods := of_decide_eq_true hr
    have hrt : r < tl.length := by omega
    have hru : r < ul.length := by omega
    have tb := turnF_bd F (depth := m.travel) (by omega)
    have db := down_bd (m := m) (a := a) (r := r) (by omega)
    refine xp_skip ?_
    refine xp_seq ?_
    refine xp_block ?_
    refine xp_seq ?_
    refine xp_region rfl ?_
    refine op_pure (pv_assign (v := .int .i64 _) rfl) ?_
    refine xp_seq ?_
    refine xp_seq ?_
    refine xp_region rfl ?_
    refine op_pure (pv_assign (v := .int .i64 _) rfl) ?_
    refine xp_block ?_
    refine xp_loopB [12, 13, 65, 66, 67, 68, 69, 70, 71, 72, 73, 74, 75, 76, 77, 78, 79, 80, 81, 82, 83, 84] 8 (α := Nat) (fun i => [(13, .int .i64 i), (12, .int .i64 (downN m a r i))]) (fun i => _) (fun i h_i => i ≤ a.buttons.length) (fun i => a.buttons.length - i) (0) ⟨rfl, rfl, trivial⟩ (rfl) (Nat.zero_le _) ?_
    rintro i T2 h_i E_i J_i
    refine goes_norm [_, _, _, _, _, _, _, _] rfl ?_
    refine xp_seq ?_
    refine xp_seq ?_
    refine xp_region rfl ?_
    refine op_pure (pv_move (v := .int .i64 _) rfl) ?_
    refine op_pure (pv_fieldAddr rfl rfl rfl rfl 0 rfl) ?_
    refine op_loadP 2 (v := .slice _ _ _) rfl rfl rfl rfl ?_
    refine op_pure (pv_len rfl rfl) ?_
    refine op_pure (pv_of (v := .bool _) rfl) ?_
    refine xp_cond rfl (fun hi => ?_) (fun hi => ?_)
    · skip
      have hil : i < a.buttons.length := ltI hi
      have hbi := H.b.mem _ (List.getElem_mem hil)
      have hbl : a.buttons[i].toNat < m.buttons.length := by omega
      have hds := down_succ (m := m) (a := a) (r := r) hil
      have hgd : m.buttons.getD a.buttons[i].toNat 0 = m.buttons[a.buttons[i].toNat] := getD_get hbl
      obtain ⟨g, off, hA, hc⟩ := (RH.b.ext (Ext.trans (Ext.trans (Ext.trans (Ext.trans (Ext.trans (Ext.trans (Ext.trans E4 E5) G1) G4) G5) E6) E_r) E_i)).at (by omega) hil
      obtain ⟨g', off', hB, hd⟩ := (RM.b.ext (Ext.trans (Ext.trans (Ext.trans (Ext.trans (Ext.trans (Ext.trans (Ext.trans (Ext.trans E3 E4) E5) G1) G4) G5) E6) E_r) E_i)).at (by omega) hbl
      refine xp_skip ?_
      refine xp_seq ?_
      refine xp_block ?_
      refine xp_seq ?_
      refine xp_dw [] rfl rfl rfl ?_
      refine dw_pure (i := 0) rfl (by decide +kernel) (pv_fieldAddr rfl rfl rfl rfl 5 rfl) ?_
      refine dw_load (i := 1) rfl (by decide +kernel) ?_
      refine op_loadP 1 (v := .slice _ _ _) rfl rfl rfl rfl ?_
      refine dw_pure (i := 2) rfl (by decide +kernel) (pv_fieldAddr rfl rfl rfl rfl 0 rfl) ?_
      refine dw_load (i := 3) rfl (by decide +kernel) ?_
      refine op_loadP 2 (v := .slice _ _ _) rfl rfl rfl rfl ?_
      refine dw_pure (i := 4) rfl (by decide +kernel) (pv_move (v := .int .i64 _) rfl) ?_
      refine dw_pure (i := 5) rfl (by decide +kernel) (pv_indexE rfl hA rfl rfl rfl (by omega) (by omega)) ?_
      refine dw_load (i := 6) rfl (by decide +kernel) ?_
      refine op_load (v := .int .i64 _) rfl rfl ((hc) 0 _ rfl) ?_
      refine dw_pure (i := 7) rfl (by decide +kernel) (pv_indexE rfl hB rfl rfl rfl (by omega) (by omega)) ?_
      refine dw_load (i := 8) rfl (by decide +kernel) ?_
      refine op_load (v := .int .i64 _) rfl rfl ((hd) 0 _ rfl) ?_
      refine dw_pure (i := 9) rfl (by decide +kernel) (pv_move (v := .int .i64 _) rfl) ?_
      refine dw_pure (i := 10) rfl (by decide +kernel) (pv_of (v := .bool _) rfl) ?_
      refine dw_end rfl ?_
      refine xp_cond rfl (fun he => ?_) (fun he => ?_)
      · skip
        have he' : m.buttons[a.buttons[i].toNat] = (r : Int) := by simpa using he
        refine xp_region rfl ?_
        refine op_pure (pv_fieldAddr rfl rfl rfl rfl 3 rfl) ?_
        refine op_loadP 1 (v := .int .i64 _) rfl rfl rfl rfl ?_
        refine op_pure (pv_assign (v := .int .i64 _) rfl) ?_
        refine xp_region rfl ?_
        refine op_pure (pv_move (v := .int .i64 _) rfl) ?_
        refine op_pure (pv_arith rfl (by omega)) ?_
        refine op_pure (pv_assign (v := .int .i64 _) rfl) ?_
        refine ⟨i + 1, ⟨rfl, intE (by rw [hds, hgd, if_pos he']), trivial⟩, rfl, rfl, E_i, fun h3 E3 => hil, by first | omega | (dsimp only; omega), ?_⟩
        repeat (first | exact off_base _ _ _ | refine off_upd (by decide) ?_ | refine off_updL rfl ?_ | refine off_mix rfl ?_)
      · skip
        have he' : ¬ m.buttons[a.buttons[i].toNat] = (r : Int) := by simpa using he
        refine xp_skip ?_
        refine xp_region rfl ?_
        refine op_pure (pv_move (v := .int .i64 _) rfl) ?_
        refine op_pure (pv_arith rfl (by omega)) ?_
        refine op_pure (pv_assign (v := .int .i64 _) rfl) ?_
        refine ⟨i + 1, ⟨rfl, intE (by rw [hds, hgd, if_neg he']), trivial⟩, rfl, rfl, E_i, fun h3 E3 => hil, by first | omega | (dsimp only; omega), ?_⟩
        repeat (first | exact off_base _ _ _ | refine off_upd (by decide) ?_ | refine off_updL rfl ?_ | refine off_mix rfl ?_)
    · skip
      have hie : i = a.buttons.length := by have := geI hi; omega
      subst hie
      refine xp_exit ?_
      refine xp_seq ?_
      refine xp_region rfl ?_
      refine op_pure (pv_move (v := .int .i64 _) rfl) ?_
      refine op_pure (pv_assign (v := .int .i64 _) rfl) ?_
      refine xp_seq ?_
      refine xp_seq ?_
      refine xp_region rfl ?_
      refine op_pure (pv_assign (v := .int .i64 _) rfl) ?_
      refine xp_block ?_
      refine xp_loopB [14, 15, 16, 86, 87, 88, 89, 90, 91, 92, 93, 94, 95, 96, 97, 98, 99, 100, 101, 102, 103, 104, 105, 106, 107, 108, 109, 110, 111, 112, 113, 114, 115, 116, 117, 118, 119, 120, 121, 122, 123, 124] 8 (α := Nat) (fun j => [(15, .int .i64 j), (14, .int .i64 (mostN m a r (turnF m a m.travel) j))]) (fun j => _) (fun j h_j => j ≤ m.links.length) (fun j => m.links.length - j) (0) ⟨rfl, rfl, trivial⟩ (rfl) (Nat.zero_le _) ?_
      rintro j T3 h_j E_j J_j
      refine goes_norm [_, _, _, _, _, _, _, _] rfl ?_
      refine xp_seq ?_
      refine xp_seq ?_
      refine xp_region rfl ?_
      refine op_pure (pv_move (v := .int .i64 _) rfl) ?_
      refine op_pure (pv_fieldAddr rfl rfl rfl rfl 7 rfl) ?_
      refine op_loadP 1 (v := .slice _ _ _) rfl rfl rfl rfl ?_
      refine op_pure (pv_len rfl rfl) ?_
      refine op_pure (pv_of (v := .bool _) rfl) ?_
      refine xp_cond rfl (fun hj => ?_) (fun hj => ?_)
      · skip
        have hjl : j < m.links.length := ltI hj
        have hms := most_succ (m := m) (a := a) (r := r) (t := turnF m a m.travel) hjl
        obtain ⟨lf, lt2, lne, lrg, llg⟩ := M.link _ (List.getElem_mem hjl)
        obtain ⟨lk, hlk⟩ : ∃ lk, lk = m.links[j] := ⟨_, rfl⟩
        have mb0 := most_bd (m := m) (a := a) (r := r) F (by omega) (show j ≤ m.links.length by omega)
        obtain ⟨g, off, hA, hc⟩ := (RM.l.ext (Ext.trans (Ext.trans (Ext.trans (Ext.trans (Ext.trans (Ext.trans (Ext.trans (Ext.trans (Ext.trans E3 E4) E5) G1) G4) G5) E6) E_r) E_i) E_j)).at (by omega) hjl
        rw [← hlk] at hms lf lt2 lne lrg llg hc
        have hft : lk.frm.toNat < tl.length := by omega
        have htf : tl[lk.frm.toNat] = turnF m a m.travel lk.frm := by rw [tat _ hft, Int.toNat_of_nonneg lf.1]
        have tbf := tb lk.frm
        obtain ⟨g', off', hB, hd⟩ := (S4.ext (Ext.trans (Ext.trans (Ext.trans (Ext.trans (Ext.trans (Ext.trans (Ext.trans E5 G1) G4) G5) E6) E_r) E_i) E_j)).at (by omega) hft
        refine xp_skip ?_
        refine xp_seq ?_
        refine xp_block ?_
        refine xp_seq ?_
        refine xp_region rfl ?_
        refine op_pure (pv_fieldAddr rfl rfl rfl rfl 7 rfl) ?_
        refine op_loadP 1 (v := .slice _ _ _) rfl rfl rfl rfl ?_
        refine op_pure (pv_move (v := .int .i64 _) rfl) ?_
        refine op_pure (pv_indexE rfl hA rfl rfl rfl (by omega) (by omega)) ?_
        refine op_loadA rfl rfl rfl rfl (hc) ?_
        refine op_alloc (cs := [_, _, _, _]) rfl rfl fun b16 hb16 => ?_
        refine wp_norm [_, _, _, _, _, _, _, _, _] rfl ?_
        refine op_storeP 8 (v := .agg #[.int .i64 _, .int .i64 _, .int .i64 _, .int .i64 _]) (vs := [_, _, _, _]) (c' := [_, _, _, _]) rfl rfl rfl rfl rfl rfl rfl rfl rfl ?_
        refine wp_norm [_, _, _, _, _, _, _, _, _] rfl ?_
        refine xp_cutB [98, 99, 100, 101, 102, 103, 104, 105, 106, 107, 108, 109, 110, 111, 112, 113, 114] 9 (α := Unit) (fun u => [(114, .bool (decide (lk.to = r) && active a.on lk))]) (fun u L => L) (fun u h_u => True) ?_ ?_
        · skip
          refine xp_region rfl ?_
          refine op_pure (pv_fieldAddr rfl rfl rfl rfl 1 rfl) ?_
          refine op_loadP 8 (v := .int .i64 _) rfl rfl rfl rfl ?_
          refine op_pure (pv_move (v := .int .i64 _) rfl) ?_
          refine op_pure (pv_of (v := .bool _) rfl) ?_
          refine op_pure (pv_move (v := .bool _) rfl) ?_
          rcases Bool.eq_false_or_eq_true (lk.to == (r : Int)) with e1 | e1
          · skip
            have e1' : lk.to = (r : Int) := by simpa using e1
            rcases Bool.eq_false_or_eq_true (decide (lk.reg < 0)) with e2 | e2
            · skip
              refine guard_yes rfl e1 ?_
              refine op_pure (pv_fieldAddr rfl rfl rfl rfl 2 rfl) ?_
              refine guard_yes rfl e1 ?_
              refine op_loadP 8 (v := .int .i64 _) rfl rfl rfl rfl ?_
              refine guard_yes rfl e1 ?_
              refine op_pure (pv_of (v := .bool _) rfl) ?_
              refine guard_yes rfl e1 ?_
              refine op_pure (pv_move (v := .bool _) rfl) ?_
              refine guard_no rfl e2 ?_
              refine guard_no rfl e2 ?_
              refine guard_no rfl e2 ?_
              refine guard_no rfl e2 ?_
              refine guard_no rfl e2 ?_
              refine guard_no rfl e2 ?_
              refine guard_yes rfl e1 ?_
              refine op_pure (pv_pickT rfl e2 (v := .bool _) rfl) ?_
              refine op_pure (pv_pickT rfl e1 (v := .bool _) rfl) ?_
              refine ⟨(), ⟨boolE (by rw [decide_eq_true e1', act_or, e2]; rfl), trivial⟩, rfl, rfl, (Ext.refl _), fun h3 E3 => by first | trivial | omega | (refine ⟨?_, ?_⟩ <;> omega), ?_⟩
              repeat (first | exact off_refl _ _ | exact off_base _ _ _ | refine off_upd (by decide) ?_ | refine off_updL rfl ?_ | refine off_mix rfl ?_)
            · skip
              refine guard_yes rfl e1 ?_
              refine op_pure (pv_fieldAddr rfl rfl rfl rfl 2 rfl) ?_
              refine guard_yes rfl e1 ?_
              refine op_loadP 8 (v := .int .i64 _) rfl rfl rfl rfl ?_
              refine guard_yes rfl e1 ?_
              refine op_pure (pv_of (v := .bool _) rfl) ?_
              refine guard_yes rfl e1 ?_
              refine op_pure (pv_move (v := .bool _) rfl) ?_
              refine guard_yes rfl e2 ?_
              refine op_pure (pv_fieldAddr rfl rfl rfl rfl 1 rfl) ?_
              refine guard_yes rfl e2 ?_
              refine op_loadP 2 (v := .slice _ _ _) rfl rfl rfl rfl ?_
              refine guard_yes rfl e2 ?_
              refine op_pure (pv_fieldAddr rfl rfl rfl rfl 2 rfl) ?_
              refine guard_yes rfl e2 ?_
              refine op_loadP 8 (v := .int .i64 _) rfl rfl rfl rfl ?_
              refine guard_yes rfl e2 ?_
              refine op_fn (caps := []) (vs := [.slice _ _ _, .int .i64 _]) rfl rfl rfl (place_ok a.on lk.reg _ _ h_j (RH.o.ext (Ext.trans (Ext.trans (Ext.trans (Ext.trans (Ext.trans (Ext.trans (Ext.trans (Ext.trans E4 E5) G1) G4) G5) E6) E_r) E_i) E_j)) (H.olen M)) ?_
              rintro _ h7 E7 ⟨z, rfl, hz⟩
              refine guard_yes rfl e2 ?_
              refine op_pure (pv_of (v := .bool _) rfl) ?_
              refine guard_yes rfl e1 ?_
              refine op_pure (pv_pickF rfl e2 (v := .bool _) rfl) ?_
              refine op_pure (pv_pickT rfl e1 (v := .bool _) rfl) ?_
              refine ⟨(), ⟨boolE (by rw [decide_eq_true e1', act_or, e2, Bool.true_and, Bool.false_or]; exact decide_eq_decide.2 hz), trivial⟩, rfl, rfl, E7, fun h3 E3 => by first | trivial | omega | (refine ⟨?_, ?_⟩ <;> omega), ?_⟩
              repeat (first | exact off_refl _ _ | exact off_base _ _ _ | refine off_upd (by decide) ?_ | refine off_updL rfl ?_ | refine off_mix rfl ?_)
          · skip
            have e1' : ¬ lk.to = (r : Int) := by simpa using e1
            refine guard_no rfl e1 ?_
            refine guard_no rfl e1 ?_
            refine guard_no rfl e1 ?_
            refine guard_no rfl e1 ?_
            refine guard_un rfl ?_
            refine guard_un rfl ?_
            refine guard_un rfl ?_
            refine guard_un rfl ?_
            refine guard_un rfl ?_
            refine guard_un rfl ?_
            refine guard_no rfl e1 ?_
            refine op_pure (pv_pickF rfl e1 (v := .bool _) rfl) ?_
            refine ⟨(), ⟨boolE (by rw [decide_eq_false e1']; rfl), trivial⟩, rfl, rfl, (Ext.refl _), fun h3 E3 => by first | trivial | omega | (refine ⟨?_, ?_⟩ <;> omega), ?_⟩
            repeat (first | exact off_refl _ _ | exact off_base _ _ _ | refine off_upd (by decide) ?_ | refine off_updL rfl ?_ | refine off_mix rfl ?_)
        · rintro u T4 h_u E_u J_u
          refine goes_norm [_, _, _, _, _, _, _, _, _] rfl ?_
          have hd := hd.ext E_u
          refine xp_cond rfl (fun hx => ?_) (fun hx => ?_)
          · skip
            rw [Bool.and_eq_true, decide_eq_true_eq] at hx
            refine xp_dw [] rfl rfl rfl ?_
            refine dw_pure (i := 0) rfl (by decide +kernel) (pv_move (v := .int .i64 _) rfl) ?_
            refine dw_pure (i := 1) rfl (by decide +kernel) (pv_move (v := .slice _ _ _) rfl) ?_
            refine dw_pure (i := 2) rfl (by decide +kernel) (pv_fieldAddr rfl rfl rfl rfl 0 rfl) ?_
            refine dw_load (i := 3) rfl (by decide +kernel) ?_
            refine op_loadP 8 (v := .int .i64 _) rfl rfl rfl rfl ?_
            refine dw_pure (i := 4) rfl (by decide +kernel) (pv_indexE rfl hB rfl rfl rfl (by omega) (by omega)) ?_
            refine dw_load (i := 5) rfl (by decide +kernel) ?_
            refine op_load (v := .int .i64 _) rfl rfl ((hd) 0 _ rfl) ?_
            refine dw_pure (i := 6) rfl (by decide +kernel) (pv_fieldAddr rfl rfl rfl rfl 3 rfl) ?_
            refine dw_load (i := 7) rfl (by decide +kernel) ?_
            refine op_loadP 8 (v := .int .i64 _) rfl rfl rfl rfl ?_
            refine dw_pure (i := 8) rfl (by decide +kernel) (pv_arith rfl (by omega)) ?_
            refine dw_pure (i := 9) rfl (by decide +kernel) (pv_max rfl rfl) ?_
            refine dw_pure (i := 10) rfl (by decide +kernel) (pv_assign (v := .int .i64 _) rfl) ?_
            refine dw_end rfl ?_
            refine xp_region rfl ?_
            refine op_pure (pv_move (v := .int .i64 _) rfl) ?_
            refine op_pure (pv_arith rfl (by omega)) ?_
            refine op_pure (pv_assign (v := .int .i64 _) rfl) ?_
            refine ⟨j + 1, ⟨rfl, intE (by rw [hms, if_pos hx, htf]), trivial⟩, rfl, rfl, (Ext.trans E_j E_u), fun h3 E3 => hjl, by first | omega | (dsimp only; omega), ?_⟩
            repeat (first | exact off_base _ _ _ | refine off_upd (by decide) ?_ | refine off_updL rfl ?_ | refine off_mix rfl ?_)
          · skip
            have hx' : ¬ (lk.to = r ∧ active a.on lk = true) := fun ⟨x1, x2⟩ => by rw [decide_eq_true x1, x2] at hx; cases hx
            refine xp_skip ?_
            refine xp_region rfl ?_
            refine op_pure (pv_move (v := .int .i64 _) rfl) ?_
            refine op_pure (pv_arith rfl (by omega)) ?_
            refine op_pure (pv_assign (v := .int .i64 _) rfl) ?_
            refine ⟨j + 1, ⟨rfl, intE (by rw [hms, if_neg hx']), trivial⟩, rfl, rfl, (Ext.trans E_j E_u), fun h3 E3 => hjl, by first | omega | (dsimp only; omega), ?_⟩
            repeat (first | exact off_base _ _ _ | refine off_upd (by decide) ?_ | refine off_updL rfl ?_ | refine off_mix rfl ?_)
      · skip
        have hje : j = m.links.length := by have := geI hj; omega
        subst hje
        have eT : tl[r] = mostN m a r (turnF m a m.travel) m.links.length := by rw [tat r hrt, turn_most F (by omega) (by omega)]
        have eU : ul[r] = downN m a r a.buttons.length := uat r hru
        obtain ⟨g, off, hA, hc⟩ := (S4.ext (Ext.trans (Ext.trans (Ext.trans (Ext.trans (Ext.trans (Ext.trans (Ext.trans E5 G1) G4) G5) E6) E_r) E_i) E_j)).at (by omega) hrt
        obtain ⟨g', off', hB, hd⟩ := (S6.ext (Ext.trans (Ext.trans E_r E_i) E_j)).at (by omega) hru
        have f1 : (tl[r] != mostN m a r (turnF m a m.travel) m.links.length) = false := by rw [eT]; simp
        have f2 : (ul[r] != downN m a r a.buttons.length) = false := by rw [eU]; simp
        refine xp_exit ?_
        refine xp_seq ?_
        refine xp_region rfl ?_
        refine op_pure (pv_move (v := .slice _ _ _) rfl) ?_
        refine op_pure (pv_move (v := .int .i64 _) rfl) ?_
        refine op_pure (pv_indexE rfl hA rfl rfl rfl (by omega) (by omega)) ?_
        refine op_load (v := .int .i64 _) rfl rfl ((hc) 0 _ rfl) ?_
        refine op_pure (pv_move (v := .int .i64 _) rfl) ?_
        refine op_pure (pv_of (v := .bool _) rfl) ?_
        refine op_pure (pv_move (v := .bool _) rfl) ?_
        refine guard_yes rfl f1 ?_
        refine op_pure (pv_move (v := .slice _ _ _) rfl) ?_
        refine guard_yes rfl f1 ?_
        refine op_pure (pv_move (v := .int .i64 _) rfl) ?_
        refine guard_yes rfl f1 ?_
        refine op_pure (pv_indexE rfl hB rfl rfl rfl (by omega) (by omega)) ?_
        refine guard_yes rfl f1 ?_
        refine op_load (v := .int .i64 _) rfl rfl ((hd) 0 _ rfl) ?_
        refine guard_yes rfl f1 ?_
        refine op_pure (pv_move (v := .int .i64 _) rfl) ?_
        refine guard_yes rfl f1 ?_
        refine op_pure (pv_of (v := .bool _) rfl) ?_
        refine op_pure (pv_pickF rfl f1 (v := .bool _) rfl) ?_
        refine xp_condF rfl (f2) ?_
        refine xp_skip ?_
        refine xp_region rfl ?_
        refine op_pure (pv_move (v := .int .i64 _) rfl) ?_
        refine op_pure (pv_arith rfl (by omega)) ?_
        refine op_pure (pv_assign (v := .int .i64 _) rfl) ?_
        refine ⟨r + 1, ⟨rfl, trivial⟩, rfl, rfl, (Ext.trans (Ext.trans E_r E_i) E_j), fun h3 E3 => by omega, by first | omega | (dsimp only; omega), ?_⟩
        repeat (first | exact off_base _ _ _ | refine off_upd (by decide) ?_ | refine off_updL rfl ?_ | refine off_mix rfl ?_)
  · skip
    refine xp_exit ?_
    refine xp_seq ?_
    refine xp_region rfl ?_
    refine op_fn (caps := []) (vs := []) rfl rfl rfl (rod_sounding rfl h_r) ?_
    rintro _ h26 E26 rfl
    refine op_pure (pv_assign (v := .bool _) rfl) ?_
    refine xp_ret ?_
    exact ⟨rfl, fun V => (Ext.trans (Ext.trans (Ext.trans (Ext.trans (Ext.trans (Ext.trans (Ext.trans (Ext.trans (Ext.trans (Ext.trans (Ext.trans E1 E2) E3) E4) E5) G1) G4) G5) E6) E_r) E26) (ext_wl V)), rfl⟩
end
end Go.Proofs.Ythphpbdmbmiaiaa
