/- An own logic over the model, its walks and its plain laws, joined of parts O10 GP R19 Rm Rn Ro R20 R21 U Uc Rp GS R23 R29 Oc K1 K2 K3 K7 K8 K9 K10 K11 K12 K13 K14 R30 R31 Rq R32 R25 R26 R33 R34 Rs R35 R36 R37 R38 GV GT. Conditions: as each theorem states. -/
import Derived.Test.YtlfbcimcehcomaaLa4
import Derived.Test.YtlfbcimcehcomaaLa1
import Derived.Test.YtlfbcimcehcomaaLa2
import Derived.Conc.LeavingOf
import Derived.Test.YtlfbcimcehcomaaLa3
set_option linter.all false
/- Walks of musettetop: open rows, places; the example of TopOpened holds. Conditions: as each theorem states. -/
namespace Go.Vo
open Go Go.HL Go.Wx Go.Rd
/-- The rows that levers open. -/
def openM (l : List Int) (n : Int) : List Int := l.filter fun x => decide (0 ≤ x) && decide (x < n)
theorem openM_snoc (l : List Int) (n x : Int) : openM (l ++ [x]) n = openM l n ++ if (decide (0 ≤ x) && decide (x < n)) = true then [x] else [] := by
  unfold openM
  rw [List.filter_append]
  congr 1
  simp only [List.filter_cons, List.filter_nil]
end Go.Vo
namespace Go.Proofs.Ytlfbcimcehcomaa
open Go Go.HL Go.Proofs Go.Wx Go.Rd Go.Vo
section
variable [Lvl]
set_option maxRecDepth 100000
theorem opened_ok (l : List Int) (hl : l.length ≤ 100) (n : Int) (A : Option Addr) (cA : Nat) (h : AH) (R : Row h 1 intC A l) : FnT Try.prog 10 #[.slice A l.length cA, .int .i64 n] h (fun v h' => SlR h' 1 intC (openM l n) v) := by
  refine call_body Try.func10 rfl Try.ntmps10 rfl ?_
  refine xp_seq ?_
  refine xp_region rfl ?_
  refine op_pure (pv_assign (v := .slice _ _ _) rfl) ?_
  refine goes_more ?_
  refine goes_norm [_] rfl ?_
  refine xp_seq ?_
  refine xp_region rfl ?_
  refine op_pure (pv_assign (v := .slice _ _ _) rfl) ?_
  refine xp_seq ?_
  refine xp_seq ?_
  refine xp_region rfl ?_
  refine op_pure (pv_assign (v := .int .i64 _) rfl) ?_
  refine xp_block ?_
  refine xp_loopL [5, 6, 7, 8, 9, 10, 11, 12, 13, 14, 15, 16, 17, 18, 19, 20, 21, 22, 23, 24, 25, 26, 27, 28, 29, 30, 31, 32] 1 (α := Nat × Acc) (fun ⟨i, a⟩ => [(6, .int .i64 i), (5, .slice a.A a.n a.c)]) (fun ⟨i, a⟩ L => L.set 0 (a.p)) (fun ⟨i, a⟩ h_i => i ≤ l.length ∧ AccR 3 1 ((openM (l.take i) n).flatMap intC) a) (fun ⟨i, a⟩ => l.length - i) ((0, acc0)) ⟨rfl, rfl, trivial⟩ (rfl) (⟨Nat.zero_le _, accR0⟩) ?_
  rintro ⟨i, a⟩ T1 h_i E_i J_i
  refine goes_norm [_] rfl ?_
  obtain ⟨K1, K2⟩ := J_i
  refine xp_seq ?_
  refine xp_seq ?_
  refine xp_region rfl ?_
  refine op_pure (pv_move (v := .int .i64 _) rfl) ?_
  refine op_pure (pv_move (v := .slice _ _ _) rfl) ?_
  refine op_pure (pv_len rfl rfl) ?_
  refine op_pure (pv_of (v := .bool _) rfl) ?_
  refine xp_cond rfl (fun hk => ?_) (fun hk => ?_)
  · skip
    have hil : i < l.length := ltI hk
    obtain ⟨g, off, hA, hc⟩ := (R.ext E_i).at (by omega) hil
    have hlen : (openM (l.take i) n).length ≤ 100 := by
      unfold openM
      have h1 := List.length_filter_le (fun x => decide (0 ≤ x) && decide (x < n)) (l.take i)
      have h2 : (l.take i).length ≤ l.length := by rw [List.length_take]; omega
      omega
    refine xp_skip ?_
    refine xp_seq ?_
    refine xp_block ?_
    refine xp_seq ?_
    refine xp_region rfl ?_
    refine op_pure (pv_move (v := .slice _ _ _) rfl) ?_
    refine op_pure (pv_move (v := .int .i64 _) rfl) ?_
    refine op_pure (pv_indexE rfl hA rfl rfl rfl (by omega) (by omega)) ?_
    refine op_load (v := .int .i64 _) rfl rfl ((hc) 0 _ rfl) ?_
    refine op_pure (pv_of (v := .bool _) rfl) ?_
    refine op_pure (pv_move (v := .bool _) rfl) ?_
    by_cases h0 : 0 ≤ l[i]
    · skip
      have g0 : decide (l[i] ≥ 0) = true := decide_eq_true h0
      refine guard_yes rfl g0 ?_
      refine op_pure (pv_move (v := .slice _ _ _) rfl) ?_
      refine guard_yes rfl g0 ?_
      refine op_pure (pv_move (v := .int .i64 _) rfl) ?_
      refine guard_yes rfl g0 ?_
      refine op_pure (pv_indexE rfl hA rfl rfl rfl (by omega) (by omega)) ?_
      refine guard_yes rfl g0 ?_
      refine op_load (v := .int .i64 _) rfl rfl ((hc) 0 _ rfl) ?_
      refine guard_yes rfl g0 ?_
      refine op_pure (pv_move (v := .int .i64 _) rfl) ?_
      refine guard_yes rfl g0 ?_
      refine op_pure (pv_of (v := .bool _) rfl) ?_
      refine op_pure (pv_pickT rfl g0 (v := .bool _) rfl) ?_
      refine xp_cond rfl (fun h1 => ?_) (fun h1 => ?_)
      · skip
        have hs : openM (l.take (i + 1)) n = openM (l.take i) n ++ [l[i]] := by rw [take_snoc hil, openM_snoc, if_pos (by rw [decide_eq_true h0, Bool.true_and]; exact h1)]
        refine xp_region rfl ?_
        refine op_pure (pv_move (v := .slice _ _ _) rfl) ?_
        refine op_pure (pv_move (v := .slice _ _ _) rfl) ?_
        refine op_pure (pv_move (v := .int .i64 _) rfl) ?_
        refine op_pure (pv_indexE rfl hA rfl rfl rfl (by omega) (by omega)) ?_
        refine op_load (v := .int .i64 _) rfl rfl ((hc) 0 _ rfl) ?_
        refine op_buildSlice (zc := [_]) (vs := [(0, .int .i64 _)]) (cs := [_]) rfl rfl rfl rfl rfl rfl rfl fun b31 hb31 => ?_
        refine wp_norm [_, _] rfl ?_
        refine op_appendR 0 K2 rfl rfl rfl (fun V => rdP V (i := 1) rfl) rfl rfl rfl rfl rfl rfl rfl rfl rfl (by omega) rfl (by rw [flat_len (m := 1) (fun _ _ => rfl)]; simp; omega) fun a2 h2a E2a ha2 => ?_
        refine wp_norm [_, _] rfl ?_
        refine op_pure (pv_assign (v := .slice _ _ _) rfl) ?_
        refine xp_region rfl ?_
        refine op_pure (pv_move (v := .int .i64 _) rfl) ?_
        refine op_pure (pv_arith rfl (by omega)) ?_
        refine op_pure (pv_assign (v := .int .i64 _) rfl) ?_
        refine ⟨(i + 1, a2), ⟨rfl, rfl, trivial⟩, rfl, rfl, (Ext.trans E_i E2a), fun h3 E3 => ⟨hil, by rw [hs, List.flatMap_append]; exact ha2⟩, by first | omega | (dsimp only; omega), ?_⟩
        repeat (first | exact off_base _ _ _ | refine off_upd (by decide) ?_ | refine off_updL rfl ?_ | refine off_mix rfl ?_)
      · skip
        have hs : openM (l.take (i + 1)) n = openM (l.take i) n := by rw [take_snoc hil, openM_snoc, if_neg (by rw [decide_eq_true h0, Bool.true_and]; intro e; rw [show decide (l[i] < n) = false from h1] at e; cases e), List.append_nil]
        refine xp_skip ?_
        refine xp_region rfl ?_
        refine op_pure (pv_move (v := .int .i64 _) rfl) ?_
        refine op_pure (pv_arith rfl (by omega)) ?_
        refine op_pure (pv_assign (v := .int .i64 _) rfl) ?_
        refine ⟨(i + 1, a), ⟨rfl, rfl, trivial⟩, rfl, rfl, E_i, fun h3 E3 => ⟨hil, by rw [hs]; exact K2⟩, by first | omega | (dsimp only; omega), ?_⟩
        repeat (first | exact off_base _ _ _ | refine off_upd (by decide) ?_ | refine off_updL rfl ?_ | refine off_mix rfl ?_)
    · skip
      have g0 : decide (l[i] ≥ 0) = false := decide_eq_false h0
      refine guard_no rfl g0 ?_
      refine guard_no rfl g0 ?_
      refine guard_no rfl g0 ?_
      refine guard_no rfl g0 ?_
      refine guard_no rfl g0 ?_
      refine guard_no rfl g0 ?_
      refine op_pure (pv_pickF rfl g0 (v := .bool _) rfl) ?_
      refine xp_condF rfl (rfl) ?_
      have hs : openM (l.take (i + 1)) n = openM (l.take i) n := by rw [take_snoc hil, openM_snoc, if_neg (by rw [decide_eq_false h0]; exact Bool.false_ne_true), List.append_nil]
      refine xp_skip ?_
      refine xp_region rfl ?_
      refine op_pure (pv_move (v := .int .i64 _) rfl) ?_
      refine op_pure (pv_arith rfl (by omega)) ?_
      refine op_pure (pv_assign (v := .int .i64 _) rfl) ?_
      refine ⟨(i + 1, a), ⟨rfl, rfl, trivial⟩, rfl, rfl, E_i, fun h3 E3 => ⟨hil, by rw [hs]; exact K2⟩, by first | omega | (dsimp only; omega), ?_⟩
      repeat (first | exact off_base _ _ _ | refine off_upd (by decide) ?_ | refine off_updL rfl ?_ | refine off_mix rfl ?_)
  · skip
    have hie : i = l.length := by have := geI hk; omega
    subst hie
    rw [List.take_length] at K2
    refine xp_exit ?_
    refine xp_seq ?_
    refine xp_region rfl ?_
    refine op_pure (pv_move (v := .slice _ _ _) rfl) ?_
    refine op_pure (pv_assign (v := .slice _ _ _) rfl) ?_
    refine xp_ret ?_
    refine res_list (vs := [_]) Try.results10 ⟨resV_tmp rfl rfl, trivial⟩ fun V => ?_
    exact ⟨(Ext.trans E_i (ext_wl V)), AccP.row (i := 0) K2 (by omega) (fun _ _ => rfl) V rfl⟩
theorem placeAt_ok (l : List Int) (hl : l.length ≤ 100) (x : Int) (A : Option Addr) (cA : Nat) (h : AH) (R : Row h 1 intC A l) : FnT Try.prog 15 #[.slice A l.length cA, .int .i64 x] h (fun v _ => ∃ p : Int, v = .int .i64 p ∧ ((p = -1 ∧ x ∉ l) ∨ ∃ q : Nat, p = q ∧ l[q]? = some x)) := by
  refine call_body Try.func15 rfl Try.ntmps15 rfl ?_
  refine xp_seq ?_
  refine xp_region rfl ?_
  refine op_pure (pv_assign (v := .int .i64 _) rfl) ?_
  refine xp_seq ?_
  refine xp_seq ?_
  refine xp_region rfl ?_
  refine op_pure (pv_assign (v := .int .i64 _) rfl) ?_
  refine xp_block ?_
  refine xp_loopB [4, 5, 6, 7, 8, 9, 10, 11, 12, 13, 14, 15, 16, 17, 18] 0 (α := Nat) (fun i => [(5, .int .i64 i)]) (fun i => _) (fun i h_i => i ≤ l.length ∧ x ∉ l.take i) (fun i => l.length - i) (0) ⟨rfl, trivial⟩ (rfl) (⟨Nat.zero_le _, List.not_mem_nil⟩) ?_
  rintro i T1 h_i E_i J_i
  refine goes_norm [] rfl ?_
  obtain ⟨K1, K2⟩ := J_i
  refine xp_seq ?_
  refine xp_seq ?_
  refine xp_region rfl ?_
  refine op_pure (pv_move (v := .int .i64 _) rfl) ?_
  refine op_pure (pv_move (v := .slice _ _ _) rfl) ?_
  refine op_pure (pv_len rfl rfl) ?_
  refine op_pure (pv_of (v := .bool _) rfl) ?_
  refine xp_cond rfl (fun hk => ?_) (fun hk => ?_)
  · skip
    have hil : i < l.length := ltI hk
    obtain ⟨g, off, hA, hc⟩ := (R.ext E_i).at (by omega) hil
    refine xp_skip ?_
    refine xp_seq ?_
    refine xp_block ?_
    refine xp_seq ?_
    refine xp_region rfl ?_
    refine op_pure (pv_move (v := .slice _ _ _) rfl) ?_
    refine op_pure (pv_move (v := .int .i64 _) rfl) ?_
    refine op_pure (pv_indexE rfl hA rfl rfl rfl (by omega) (by omega)) ?_
    refine op_load (v := .int .i64 _) rfl rfl ((hc) 0 _ rfl) ?_
    refine op_pure (pv_move (v := .int .i64 _) rfl) ?_
    refine op_pure (pv_of (v := .bool _) rfl) ?_
    refine xp_cond rfl (fun he => ?_) (fun he => ?_)
    · skip
      have he' : l[i] = x := by simpa using he
      refine xp_seq ?_
      refine xp_region rfl ?_
      refine op_pure (pv_move (v := .int .i64 _) rfl) ?_
      refine op_pure (pv_assign (v := .int .i64 _) rfl) ?_
      refine xp_ret ?_
      refine res_list (vs := [_]) Try.results15 ⟨resV_tmp rfl rfl, trivial⟩ fun V => ?_
      exact ⟨(Ext.trans E_i (ext_wl V)), i, rfl, .inr ⟨i, rfl, by rw [List.getElem?_eq_getElem hil, he']⟩⟩
    · skip
      have he' : l[i] ≠ x := by simpa using he
      have hnx : x ∉ l.take (i + 1) := by
        rw [take_snoc hil, List.mem_append, List.mem_singleton]
        rintro (h | h)
        · exact K2 h
        · exact he' h.symm
      refine xp_skip ?_
      refine xp_region rfl ?_
      refine op_pure (pv_move (v := .int .i64 _) rfl) ?_
      refine op_pure (pv_arith rfl (by omega)) ?_
      refine op_pure (pv_assign (v := .int .i64 _) rfl) ?_
      refine ⟨i + 1, ⟨rfl, trivial⟩, rfl, rfl, E_i, fun h3 E3 => ⟨hil, hnx⟩, by first | omega | (dsimp only; omega), ?_⟩
      repeat (first | exact off_base _ _ _ | refine off_upd (by decide) ?_ | refine off_updL rfl ?_ | refine off_mix rfl ?_)
  · skip
    have hie : i = l.length := by have := geI hk; omega
    subst hie
    rw [List.take_length] at K2
    refine xp_exit ?_
    refine xp_seq ?_
    refine xp_region rfl ?_
    refine op_pure (pv_assign (v := .int .i64 _) rfl) ?_
    refine xp_ret ?_
    refine res_list (vs := [_]) Try.results15 ⟨resV_tmp rfl rfl, trivial⟩ fun V => ?_
    exact ⟨(Ext.trans E_i (ext_wl V)), -1, rfl, .inl ⟨rfl, K2⟩⟩
def machO0 : MachP := ⟨1, 2, 0, 3, 2, [0], [⟨0, 0, 0⟩, ⟨0, 1, 2⟩], [], [0, 0]⟩
def scaO0 : ScaP := ⟨⟨20, 0, 4, 0⟩, [[⟨⟨0, 0⟩, ⟨0, 0⟩⟩], [⟨⟨20, 20⟩, ⟨0, 0⟩⟩]]⟩
theorem scaO0_B : ScaB scaO0 1 := by
  refine ⟨⟨by decide, by decide, by decide, by decide, by decide, by decide, by decide, by decide⟩, by decide, by decide, ?_, ?_, ?_⟩
  · intro r hr
    simp [scaO0] at hr
    rcases hr with rfl | rfl <;> rfl
  · intro r hr z hz
    simp [scaO0] at hr
    rcases hr with rfl | rfl <;> (simp at hz; subst hz; exact ⟨by decide, by decide, by decide, by decide, by decide, by decide⟩)
  · intro k hk
    have : k = 0 := by omega
    subst this
    decide
theorem regO0 : RegB [0, 1] scaO0.rows.length := by
  refine ⟨fun r hr => ?_, fun i h1 h2 => ?_⟩
  · simp at hr
    rcases hr with rfl | rfl <;> decide
  · have h3 : i < 2 := h2
    have : i = 1 := by omega
    subst this
    decide
theorem verdO0 {vs : List Int} (hl : vs.length = notesM scaO0) (hv : ∀ k : Nat, k < notesM scaO0 → Verd scaO0.law (dueM scaO0.law k) (voicesM scaO0 [0, 1] k) (vs.getD k 0)) : vs = [1] := by
  have h1 : vs.length = 1 := hl
  obtain ⟨e, h2, _⟩ := hv 0 (by decide)
  match vs, h1 with
  | [v], _ =>
    have h3 : v = (if sureM scaO0.law (dueM scaO0.law 0) (voicesM scaO0 [0, 1] 0).reverse then 1 else if e then 2 else 3) := h2
    rw [if_pos (by decide +kernel)] at h3
    rw [h3]
theorem sndO0 : checkHandM machO0 ⟨[0], []⟩ = 0 := by decide +kernel
theorem sndO1 : soundsL machO0 ⟨[0], []⟩ = [0] := by decide +kernel
theorem voicesAwake_ok (hph : Lvl.ph = true) (h : AH) : FnT Try.prog 18 #[] h (fun v _ => v = .bool true) := by
  refine call_body Try.func18 rfl Try.ntmps18 rfl ?_
  refine xp_seq ?_
  refine xp_region rfl ?_
  refine op_pure (pv_assign (v := .bool _) rfl) ?_
  refine xp_seq ?_
  refine xp_region rfl ?_
  refine op_pure (pv_build (zc := [_, _]) (vs := []) (cs := [_, _]) rfl rfl rfl rfl rfl rfl) ?_
  refine op_alloc (cs := [_, _]) rfl rfl fun b1 hb1 => ?_
  refine wp_norm [_] rfl ?_
  refine op_storeP 0 (v := .agg #[.int .i64 _, .int .i64 _]) (vs := [_, _]) (c' := [_, _]) rfl rfl rfl rfl rfl rfl rfl rfl rfl ?_
  refine wp_norm [_] rfl ?_
  refine xp_seq ?_
  refine xp_region rfl ?_
  refine op_pure (pv_build (zc := [_, _, _, _]) (vs := [(0, .int .i64 _), (2, .int .i64 _)]) (cs := [_, _, _, _]) rfl rfl rfl rfl rfl rfl) ?_
  refine op_loadPA 0 (vs := [.int .i64 _, .int .i64 _]) rfl rfl rfl rfl rfl ?_
  refine op_pure (pv_build (zc := [_, _, _, _]) (vs := [(0, .agg #[.int .i64 _, .int .i64 _])]) (cs := [_, _, _, _]) rfl rfl rfl rfl rfl rfl) ?_
  refine op_buildSlice (zc := [_, _, _, _]) (vs := [(0, .agg #[.int .i64 _, .int .i64 _, .int .i64 _, .int .i64 _])]) (cs := [_, _, _, _]) rfl rfl rfl rfl rfl rfl rfl fun b12 hb12 => ?_
  refine wp_norm [_, _] rfl ?_
  refine op_pure (pv_build (zc := [_, _]) (vs := [(0, .int .i64 _), (1, .int .i64 _)]) (cs := [_, _]) rfl rfl rfl rfl rfl rfl) ?_
  refine op_pure (pv_build (zc := [_, _, _, _]) (vs := [(0, .agg #[.int .i64 _, .int .i64 _])]) (cs := [_, _, _, _]) rfl rfl rfl rfl rfl rfl) ?_
  refine op_buildSlice (zc := [_, _, _, _]) (vs := [(0, .agg #[.int .i64 _, .int .i64 _, .int .i64 _, .int .i64 _])]) (cs := [_, _, _, _]) rfl rfl rfl rfl rfl rfl rfl fun b15 hb15 => ?_
  refine wp_norm [_, _, _] rfl ?_
  refine op_buildSlice (zc := [_]) (vs := [(0, .slice _ _ _), (1, .slice _ _ _)]) (cs := [_, _]) rfl rfl rfl rfl rfl rfl rfl fun b16 hb16 => ?_
  refine wp_norm [_, _, _, _] rfl ?_
  refine op_pure (pv_build (zc := [_, _, _, _, _]) (vs := [(0, .agg #[.int .i64 _, .int .i64 _, .int .i64 _, .int .i64 _]), (1, .slice _ _ _)]) (cs := [_, _, _, _, _]) rfl rfl rfl rfl rfl rfl) ?_
  refine op_alloc (cs := [_, _, _, _, _]) rfl rfl fun b2 hb2 => ?_
  refine wp_norm [_, _, _, _, _] rfl ?_
  refine op_storeP 4 (v := .agg #[.int .i64 _, .int .i64 _, .int .i64 _, .int .i64 _, .slice _ _ _]) (vs := [_, _, _, _, _]) (c' := [_, _, _, _, _]) rfl rfl rfl rfl rfl rfl rfl rfl rfl ?_
  refine wp_norm [_, _, _, _, _] rfl ?_
  refine goes_pub 1 rfl ?_
  intro g1 G1 P1
  refine goes_pub 2 rfl ?_
  intro g2 G2 P2
  refine goes_pub 3 rfl ?_
  intro g3 G3 P3
  refine goes_norm [_, _, _, _, _] rfl ?_
  refine xp_seq ?_
  refine xp_region rfl ?_
  refine op_loadPA 4 (vs := [.int .i64 _, .int .i64 _, .int .i64 _, .int .i64 _, .slice _ _ _]) rfl rfl rfl rfl rfl ?_
  refine op_buildSlice (zc := [_]) (vs := [(0, .int .i64 _), (1, .int .i64 _)]) (cs := [_, _]) rfl rfl rfl rfl rfl rfl rfl fun b20 hb20 => ?_
  refine wp_norm [_, _, _, _, _, _] rfl ?_
  refine wp_pub 5 rfl rfl ?_
  intro g4 G4 P4
  refine wp_norm [_, _, _, _, _, _] rfl ?_
  refine wp_norm [_, _, _, _, _, _] rfl ?_
  have RO : SlX g3 1 TS scaO0.rows (.slice (some ⟨b16, 0, none⟩) scaO0.rows.length 2) := by
    refine SlX.of (cs := [[.slice (some ⟨b12, 0, none⟩) 1 1], [.slice (some ⟨b15, 0, none⟩) 1 1]]) (row_of_block (enc := id) (m := 1) (l := [[.slice (some ⟨b12, 0, none⟩) 1 1], [.slice (some ⟨b15, 0, none⟩) 1 1]]) (fun x hx => by simp at hx; rcases hx with rfl | rfl <;> rfl) P3) ⟨rfl, fun i x c h1 h2 => ?_⟩ rfl
    match i, h1, h2 with
    | 0, h1, h2 => cases h1; cases h2; exact ⟨_, rfl, some ⟨b12, 0, none⟩, 1, rfl, (row_of_block (enc := sndC) (m := 4) (l := [⟨⟨0, 0⟩, ⟨0, 0⟩⟩]) (fun _ _ => rfl) P1).ext (G2.trans G3)⟩
    | 1, h1, h2 => cases h1; cases h2; exact ⟨_, rfl, some ⟨b15, 0, none⟩, 1, rfl, (row_of_block (enc := sndC) (m := 4) (l := [⟨⟨20, 20⟩, ⟨0, 0⟩⟩]) (fun _ _ => rfl) P2).ext G3⟩
    | i + 2, h1, h2 => simp [scaO0] at h1
  refine op_fn (caps := []) (vs := [.agg _, .slice _ _ _]) rfl rfl rfl (Tremolo_ok scaO0 1 scaO0_B [0, 1] regO0 (by decide) (some ⟨b16, 0, none⟩) (some ⟨b20, 0, none⟩) 2 2 g4 (RO.ext TS.mono G4) (row_of_block (enc := intC) (m := 1) (l := [0, 1]) (fun _ _ => rfl) P4)) ?_
  rintro _ f1 F1 ⟨_, vs, rfl, ⟨VA, cV, rfl, RV⟩, hvl, hvv⟩
  have hvs := verdO0 hvl hvv
  subst hvs
  refine op_pure (pv_move (v := .tuple #[.slice _ _ _, .int .i64 _]) rfl) ?_
  refine op_pure (pv_of (v := .slice _ _ _) rfl) ?_
  refine op_pure (pv_of (v := .int .i64 _) rfl) ?_
  refine op_pure (pv_assign (v := .slice _ _ _) rfl) ?_
  refine op_pure (pv_assign (v := .int .i64 _) rfl) ?_
  refine xp_seq ?_
  refine xp_region rfl ?_
  refine op_buildSlice (zc := [_]) (vs := [(0, .int .i64 _)]) (cs := [_]) rfl rfl rfl rfl rfl rfl rfl fun b24 hb24 => ?_
  refine wp_norm [_, _, _, _, _, _, _] rfl ?_
  refine op_pure (pv_build (zc := [_, _, _]) (vs := []) (cs := [_, _, _]) rfl rfl rfl rfl rfl rfl) ?_
  refine op_pure (pv_build (zc := [_, _, _]) (vs := [(1, .int .i64 _), (2, .int .i64 _)]) (cs := [_, _, _]) rfl rfl rfl rfl rfl rfl) ?_
  refine op_buildSlice (zc := [_, _, _]) (vs := [(0, .agg #[.int .i64 _, .int .i64 _, .int .i64 _]), (1, .agg #[.int .i64 _, .int .i64 _, .int .i64 _])]) (cs := [_, _, _, _, _, _]) rfl rfl rfl rfl rfl rfl rfl fun b27 hb27 => ?_
  refine wp_norm [_, _, _, _, _, _, _, _] rfl ?_
  refine op_buildSlice (zc := [_]) (vs := [(0, .int .i64 _), (1, .int .i64 _)]) (cs := [_, _]) rfl rfl rfl rfl rfl rfl rfl fun b28 hb28 => ?_
  refine wp_norm [_, _, _, _, _, _, _, _, _] rfl ?_
  refine op_pure (pv_build (zc := [_, _, _, _, _, _, _, _, _]) (vs := [(0, .int .i64 _), (1, .int .i64 _), (3, .int .i64 _), (4, .int .i64 _), (5, .slice _ _ _), (6, .slice _ _ _), (8, .slice _ _ _)]) (cs := [_, _, _, _, _, _, _, _, _]) rfl rfl rfl rfl rfl rfl) ?_
  refine op_alloc (cs := [_, _, _, _, _, _, _, _, _]) rfl rfl fun b5 hb5 => ?_
  refine wp_norm [_, _, _, _, _, _, _, _, _, _] rfl ?_
  refine op_storeP 9 (v := .agg #[.int .i64 _, .int .i64 _, .int .i64 _, .int .i64 _, .int .i64 _, .slice _ _ _, .slice _ _ _, .slice _ _ _, .slice _ _ _]) (vs := [_, _, _, _, _, _, _, _, _]) (c' := [_, _, _, _, _, _, _, _, _]) rfl rfl rfl rfl rfl rfl rfl rfl rfl ?_
  refine wp_norm [_, _, _, _, _, _, _, _, _, _] rfl ?_
  refine goes_pub 6 rfl ?_
  intro g5 G5 P5
  refine goes_pub 7 rfl ?_
  intro g6 G6 P6
  refine goes_pub 8 rfl ?_
  intro g7 G7 P7
  refine goes_norm [_, _, _, _, _, _, _, _, _, _] rfl ?_
  refine xp_seq ?_
  refine xp_region rfl ?_
  refine op_loadPA 9 (vs := [.int .i64 _, .int .i64 _, .int .i64 _, .int .i64 _, .int .i64 _, .slice _ _ _, .slice _ _ _, .slice _ _ _, .slice _ _ _]) rfl rfl rfl rfl rfl ?_
  refine op_buildSlice (zc := [_]) (vs := [(0, .int .i64 _)]) (cs := [_]) rfl rfl rfl rfl rfl rfl rfl fun b32 hb32 => ?_
  refine wp_norm [_, _, _, _, _, _, _, _, _, _, _] rfl ?_
  refine op_pure (pv_build (zc := [_, _]) (vs := [(0, .slice _ _ _)]) (cs := [_, _]) rfl rfl rfl rfl rfl rfl) ?_
  refine wp_pub 10 rfl rfl ?_
  intro g8 G8 P8
  refine wp_norm [_, _, _, _, _, _, _, _, _, _, _] rfl ?_
  refine wp_norm [_, _, _, _, _, _, _, _, _, _, _] rfl ?_
  have HS := Sounds_ok hph machO0 ⟨[0], []⟩ (some ⟨b24, 0, none⟩) (some ⟨b27, 0, none⟩) none (some ⟨b28, 0, none⟩) (some ⟨b32, 0, none⟩) none 1 2 0 2 1 0 g8 ⟨row_of_block (enc := intC) (m := 1) (l := machO0.buttons) (fun _ _ => rfl) ((Ext.trans (Ext.trans G6 G7) G8) _ _ P5), row_of_block (enc := pinC) (m := 3) (l := machO0.pins) (fun _ _ => rfl) ((Ext.trans G7 G8) _ _ P6), ⟨fun _ h => absurd h List.not_mem_nil, Rd.nil _ _⟩, row_of_block (enc := intC) (m := 1) (l := machO0.weights) (fun _ _ => rfl) (G8 _ _ P7)⟩ ⟨row_of_block (enc := intC) (m := 1) (l := [0]) (fun _ _ => rfl) ((Ext.refl _) _ _ P8), ⟨fun _ h => absurd h List.not_mem_nil, Rd.nil _ _⟩⟩ (by decide) (by decide) (by decide)
  rw [sndO0, sndO1] at HS
  refine op_fn (caps := []) (vs := [.agg _, .agg _]) rfl rfl rfl (HS) ?_
  rintro _ f2 F2 ⟨_, rfl, A9, c9, rfl, R9⟩
  refine op_pure (pv_move (v := .tuple #[.slice _ _ _, .int .i64 _]) rfl) ?_
  refine op_pure (pv_of (v := .slice _ _ _) rfl) ?_
  refine op_pure (pv_of (v := .int .i64 _) rfl) ?_
  refine op_pure (pv_assign (v := .slice _ _ _) rfl) ?_
  refine op_pure (pv_assign (v := .int .i64 _) rfl) ?_
  refine xp_seq ?_
  refine xp_region rfl ?_
  refine op_pure (pv_move (v := .int .i64 _) rfl) ?_
  refine op_pure (pv_of (v := .bool _) rfl) ?_
  refine op_pure (pv_move (v := .bool _) rfl) ?_
  refine guard_yes rfl rfl ?_
  refine op_pure (pv_move (v := .int .i64 _) rfl) ?_
  refine guard_yes rfl rfl ?_
  refine op_pure (pv_of (v := .bool _) rfl) ?_
  refine op_pure (pv_pickT rfl rfl (v := .bool _) rfl) ?_
  refine op_pure (pv_move (v := .bool _) rfl) ?_
  refine guard_yes rfl rfl ?_
  refine op_pure (pv_move (v := .slice _ _ _) rfl) ?_
  refine guard_yes rfl rfl ?_
  refine op_buildSlice (zc := [_]) (vs := [(0, .int .i64 _)]) (cs := [_]) rfl rfl rfl rfl rfl rfl rfl fun b45 hb45 => ?_
  refine wp_norm [_, _, _, _, _, _, _, _, _, _, _, _] rfl ?_
  refine guard_yes rfl rfl ?_
  refine wp_pub 11 rfl rfl ?_
  intro g9 G9 P9
  refine wp_norm [_, _, _, _, _, _, _, _, _, _, _, _] rfl ?_
  refine wp_norm [_, _, _, _, _, _, _, _, _, _, _, _] rfl ?_
  refine op_fn (caps := []) (vs := [.slice _ _ _, .slice _ _ _]) rfl rfl rfl (sameInts_ok [1] [1] VA (some ⟨b45, 0, none⟩) cV 1 g9 (RV.ext (Ext.trans (Ext.trans (Ext.trans (Ext.trans (Ext.trans G5 G6) G7) G8) F2) G9)) (row_of_block (enc := intC) (m := 1) (l := [1]) (fun _ _ => rfl) ((Ext.refl _) _ _ P9)) (by decide)) ?_
  rintro _ f3 F3 rfl
  refine op_pure (pv_pickT rfl rfl (v := .bool _) rfl) ?_
  refine op_pure (pv_move (v := .bool _) rfl) ?_
  refine guard_yes rfl rfl ?_
  refine op_pure (pv_move (v := .slice _ _ _) rfl) ?_
  refine guard_yes rfl rfl ?_
  refine op_buildSlice (zc := [_]) (vs := [(0, .int .i64 _)]) (cs := [_]) rfl rfl rfl rfl rfl rfl rfl fun b50 hb50 => ?_
  refine wp_norm [_, _, _, _, _, _, _, _, _, _, _, _, _] rfl ?_
  refine guard_yes rfl rfl ?_
  refine wp_pub 12 rfl rfl ?_
  intro g10 G10 P10
  refine wp_norm [_, _, _, _, _, _, _, _, _, _, _, _, _] rfl ?_
  refine wp_norm [_, _, _, _, _, _, _, _, _, _, _, _, _] rfl ?_
  refine op_fn (caps := []) (vs := [.slice _ _ _, .slice _ _ _]) rfl rfl rfl (sameInts_ok [0] [0] A9 (some ⟨b50, 0, none⟩) c9 1 g10 (R9.ext (Ext.trans (Ext.trans G9 F3) G10)) (row_of_block (enc := intC) (m := 1) (l := [0]) (fun _ _ => rfl) ((Ext.refl _) _ _ P10)) (by decide)) ?_
  rintro _ f4 F4 rfl
  refine op_pure (pv_pickT rfl rfl (v := .bool _) rfl) ?_
  refine op_pure (pv_assign (v := .bool _) rfl) ?_
  refine xp_ret ?_
  refine res_list (vs := [_]) Try.results18 ⟨resV_tmp rfl rfl, trivial⟩ fun V => ?_
  exact ⟨(Ext.trans (Ext.trans (Ext.trans (Ext.trans (Ext.trans (Ext.trans (Ext.trans (Ext.trans (Ext.trans (Ext.trans (Ext.trans (Ext.trans (Ext.trans (Ext.trans G1 G2) G3) G4) F1) G5) G6) G7) G8) F2) G9) F3) G10) F4) (ext_wl V)), rfl⟩
end
end Go.Proofs.Ytlfbcimcehcomaa
/- The own logic, part GP: drawn regions where guarded operations that only make a block may come in any order. Conditions: none. -/
namespace Go.HL
open Go
variable [Lvl]
section
variable {P : Program} {n : Nat} {ops : Array Oper}
end
section
variable {P : Program} {n : Nat} {ops : Array Oper} {i : Nat} {d : Option Tmp} {op : Op} {ty : TypeId} {ps : String} {af : Array Edge} {S : Sl} {L : Pv} {h : AH} {mask : List Bool} {X : Sl → AH → Prop} {dn ac : List Nat}
end
end Go.HL
/- Walks of the laws of rod: the chapter's examples hold. Conditions: as each theorem states. -/
namespace Go.Proofs.Ytlfbcimcehcomaa
open Go Go.HL Go.Proofs Go.Wx Go.Rd
section
variable [Lvl]
set_option maxRecDepth 100000
end
end Go.Proofs.Ytlfbcimcehcomaa
/- Plain: other numbers of rods and levers, another order of pins. Conditions: none. -/
namespace Go.Rd
open Go Go.HL Go.Wx
variable [Lvl]
/-- Rods renamed by s. -/
def renL (s : Int → Int) (l : LinkP) : LinkP := ⟨s l.frm, s l.to, l.reg, l.lag⟩
structure RenR (s : Int → Int) (m m' : MachP) : Prop where
  rods : m'.rods = m.rods
  bd : ∀ r, 0 ≤ r → r < m.rods → 0 ≤ s r ∧ s r < m.rods
  btn : m'.buttons = m.buttons.map s
  links : m'.links = m.links.map (renL s)
/-- Renamed, and back. -/
structure Inv (s t : Int → Int) (n : Int) : Prop where
  sb : ∀ r, 0 ≤ r → r < n → 0 ≤ s r ∧ s r < n
  tb : ∀ r, 0 ≤ r → r < n → 0 ≤ t r ∧ t r < n
  ts : ∀ r, 0 ≤ r → r < n → t (s r) = r
  st : ∀ r, 0 ≤ r → r < n → s (t r) = r
end Go.Rd
/- Plain: sums in any order; rods that nothing turns. Conditions: none. -/
namespace Go.Rd
open Go Go.HL Go.Wx
variable [Lvl]
end Go.Rd
/- Plain: buttons that are pressed down less deep. Conditions: none. -/
namespace Go.Rd
open Go Go.HL Go.Wx
variable [Lvl]
end Go.Rd
/- Walks: machines and hands that are made of numbers, copies. Conditions: as each theorem states. -/
namespace Go.Proofs.Ytlfbcimcehcomaa
open Go Go.HL Go.Proofs Go.Wx Go.Rd
section
variable [Lvl]
set_option maxRecDepth 100000
theorem tmod_gt (x : Int) {n : Int} (hn : 0 < n) : -n < x.tmod n := by
  by_cases h : 0 ≤ x
  · have := Int.tmod_nonneg n h; omega
  · obtain ⟨y, rfl⟩ : ∃ y, x = -y := ⟨-x, by omega⟩
    rw [Int.neg_tmod]
    have := Int.tmod_lt_of_pos y hn
    omega
def turnI (x n : Int) : Int := if n < 2 then 0 else (x.tmod n + n).tmod n
theorem turnI_bd (x n : Int) : 0 ≤ turnI x n ∧ (1 ≤ n → turnI x n < n) := by
  unfold turnI
  split
  · omega
  · rename_i h
    have h1 : -n < x.tmod n := tmod_gt x (by omega)
    have h2 : 0 ≤ x.tmod n + n := by omega
    exact ⟨Int.tmod_nonneg n h2, fun _ => Int.tmod_lt_of_pos _ (by omega)⟩
theorem turnI_ne {f d n : Int} (hn : 2 ≤ n) (h0 : 0 ≤ f ∧ f < n) (hd : 1 ≤ d ∧ d < n) : turnI (f + d) n ≠ f := by
  unfold turnI
  rw [if_neg (by omega)]
  rw [Int.tmod_eq_emod_of_nonneg (by omega : 0 ≤ f + d), Int.tmod_eq_emod_of_nonneg (by have := Int.emod_nonneg (f + d) (by omega : n ≠ 0); omega)]
  rw [Int.add_emod_right, Int.emod_emod]
  intro e
  by_cases h : f + d < n
  · rw [Int.emod_eq_of_lt (by omega) h] at e; omega
  · have : (f + d) % n = f + d - n := by
      rw [← Int.sub_emod_right (f + d) n, Int.emod_eq_of_lt (by omega) (by omega)]
    omega
theorem Turn_ok (x n : Int) (hn : n ≤ 2 ^ 40) (h : AH) : FnT Try.prog 26 #[.int .i64 x, .int .i64 n] h (fun v _ => v = .int .i64 (turnI x n)) := by
  refine call_body Try.func26 rfl Try.ntmps26 rfl ?_
  refine xp_seq ?_
  refine xp_region rfl ?_
  refine op_pure (pv_assign (v := .int .i64 _) rfl) ?_
  refine xp_seq ?_
  refine xp_seq ?_
  refine xp_region rfl ?_
  refine op_pure (pv_move (v := .int .i64 _) rfl) ?_
  refine op_pure (pv_of (v := .bool _) rfl) ?_
  refine xp_cond rfl (fun ht => ?_) (fun ht => ?_)
  · skip
    have ht' : n < 2 := of_decide_eq_true ht
    refine xp_seq ?_
    refine xp_region rfl ?_
    refine op_pure (pv_assign (v := .int .i64 _) rfl) ?_
    refine xp_ret ?_
    refine res_list (vs := [_]) Try.results26 ⟨resV_tmp rfl rfl, trivial⟩ fun V => ?_
    exact ⟨(ext_wl V), intE (by rw [turnI, if_pos ht'])⟩
  · skip
    have ht' : ¬ n < 2 := of_decide_eq_false ht
    have h1 : -n < x.tmod n := tmod_gt x (by omega)
    have h2 : x.tmod n < n := Int.tmod_lt_of_pos _ (by omega)
    refine xp_skip ?_
    refine xp_seq ?_
    refine xp_region rfl ?_
    refine op_pure (pv_move (v := .int .i64 _) rfl) ?_
    refine op_pure (pv_move (v := .int .i64 _) rfl) ?_
    refine op_pure (pv_remT rfl rfl (by omega)) ?_
    refine op_pure (pv_move (v := .int .i64 _) rfl) ?_
    refine op_pure (pv_arith rfl (by omega)) ?_
    refine op_pure (pv_move (v := .int .i64 _) rfl) ?_
    refine op_pure (pv_remT rfl rfl (by omega)) ?_
    refine op_pure (pv_assign (v := .int .i64 _) rfl) ?_
    refine xp_ret ?_
    refine res_list (vs := [_]) Try.results26 ⟨resV_tmp rfl rfl, trivial⟩ fun V => ?_
    exact ⟨(ext_wl V), intE (by rw [turnI, if_neg ht'])⟩
/-- A machine that is made of numbers. -/
structure Made (size pins links : Int) (m : MachP) : Prop where
  ok : MOK m
  rs : m.rods ≤ size
  ls : m.levers ≤ size
  bl : m.buttons.length ≤ 3
  pl : (m.pins.length : Int) ≤ pins
  ll : (m.links.length : Int) ≤ links
theorem mem_one {α : Type} {P : α → Prop} {l : List α} {z : α} (h : ∀ x ∈ l, P x) (hz : P z) : ∀ x ∈ l ++ [z], P x := fun x hx => by
  rcases List.mem_append.1 hx with hx | hx
  · exact h x hx
  · simp at hx; subst hx; exact hz
/-- A machine's pins and links have room. -/
def CapM (v : Value) : Prop := ∀ AB AQ AL AW cB cQ cL cW m, v = machV AB AQ AL AW cB cQ cL cW m → m.pins.length ≤ cQ ∧ m.links.length ≤ cL
theorem capM_of {z1 z2 z3 z4 z5 zB zW : Value} {A A' : Option Addr} {n n' c c' : Nat} (h : n ≤ c) (h' : n' ≤ c') : CapM (.agg #[z1, z2, z3, z4, z5, zB, .slice A n c, .slice A' n' c', zW]) := by
  intro AB AQ AL AW cB cQ cL cW m e
  simp only [machV, Value.agg.injEq, Array.mk.injEq, List.cons.injEq, Value.slice.injEq] at e
  obtain ⟨_, _, _, _, _, _, ⟨_, e1, e2⟩, ⟨_, e3, e4⟩, _⟩ := e
  omega
set_option maxHeartbeats 8000000 in
theorem MachineOf_okC (b x : Nat) (size pins links : Int) (hs : 1 ≤ size ∧ size ≤ 6) (hp : 0 ≤ pins ∧ pins ≤ 8) (hl : 0 ≤ links ∧ links ≤ 4) (h : AH) :
    FnM Try.prog (.func (.func 6) #[] ([] : List Value).toArray) [.pointer (some ⟨b, 0, none⟩), .int .i64 size, .int .i64 pins, .int .i64 links] h [some (b, .cells #[.int .u64 (x : Int)] 76 (0, 0))]
    (fun v h' M' => ∃ (x' : Nat) (m : MachP), M' = [some (b, .cells #[.int .u64 (x' : Int)] 76 (0, 0))] ∧ MachV h' m v ∧ Made size pins links m ∧ CapM v) := by
  refine fnM_body rfl rfl Try.func6 rfl Try.ntmps6 rfl ?_
  refine xp_seq ?_
  refine xp_region rfl ?_
  refine op_alloc (cs := [_, _, _, _, _, _, _, _, _]) rfl rfl fun b8 hb8 => ?_
  refine wp_norm [_, _] rfl ?_
  refine xp_seq ?_
  refine xp_region rfl ?_
  refine op_pure (pv_move (v := .pointer (some ⟨b, 0, none⟩)) rfl) ?_
  refine op_pure (pv_move (v := .int .i64 _) rfl) ?_
  refine op_pure (pv_min rfl rfl) ?_
  refine op_fnMM [] [_] [_] (vs := [.pointer _, .int .i64 _, .int .i64 _]) rfl rfl rfl ((Within_ok b x 1 (min size 6) (by omega) (by omega) (by omega) h)) ?_
  rintro _ h1 _ E1 ⟨x1, r, rfl, rfl, r1, r2⟩
  refine wp_norm [_, _] rfl ?_
  refine op_pure (pv_move (v := .pointer (some ⟨b, 0, none⟩)) rfl) ?_
  refine op_pure (pv_move (v := .int .i64 _) rfl) ?_
  refine op_pure (pv_min rfl rfl) ?_
  refine op_fnMM [] [_] [_] (vs := [.pointer _, .int .i64 _, .int .i64 _]) rfl rfl rfl ((Within_ok b x1 1 (min size 6) (by omega) (by omega) (by omega) h1)) ?_
  rintro _ h2 _ E2 ⟨x2, v, rfl, rfl, v1, v2⟩
  refine wp_norm [_, _] rfl ?_
  refine op_pure (pv_move (v := .pointer (some ⟨b, 0, none⟩)) rfl) ?_
  refine op_fnMM [] [_] [_] (vs := [.pointer _, .int .i64 _]) rfl rfl rfl ((Upto_ok b x2 2 (by omega) h2)) ?_
  rintro _ h3 _ E3 ⟨x3, g, rfl, rfl, g1, g2⟩
  refine wp_norm [_, _] rfl ?_
  refine op_pure (pv_move (v := .pointer (some ⟨b, 0, none⟩)) rfl) ?_
  refine op_fnMM [] [_] [_] (vs := [.pointer _, .int .i64 _, .int .i64 _]) rfl rfl rfl ((Within_ok b x3 2 12 (by omega) (by omega) (by omega) h3)) ?_
  rintro _ h4 _ E4 ⟨x4, t, rfl, rfl, t1, t2⟩
  refine wp_norm [_, _] rfl ?_
  refine op_pure (pv_build (zc := [_, _, _, _, _, _, _, _, _]) (vs := [(0, .int .i64 _), (1, .int .i64 _), (2, .int .i64 _), (3, .int .i64 _)]) (cs := [_, _, _, _, _, _, _, _, _]) rfl rfl rfl rfl rfl rfl) ?_
  refine op_alloc (cs := [_, _, _, _, _, _, _, _, _]) rfl rfl fun b9 hb9 => ?_
  refine wp_norm [_, _, _] rfl ?_
  refine op_storeP 2 (v := .agg #[.int .i64 _, .int .i64 _, .int .i64 _, .int .i64 _, .int .i64 _, .slice _ _ _, .slice _ _ _, .slice _ _ _, .slice _ _ _]) (vs := [_, _, _, _, _, _, _, _, _]) (c' := [_, _, _, _, _, _, _, _, _]) rfl rfl rfl rfl rfl rfl rfl rfl rfl ?_
  refine wp_norm [_, _, _] rfl ?_
  refine xp_seq ?_
  refine xp_region rfl ?_
  refine op_pure (pv_move (v := .pointer (some ⟨b, 0, none⟩)) rfl) ?_
  refine op_pure (pv_fieldAddr rfl rfl rfl rfl 3 rfl) ?_
  refine op_loadP 2 (v := .int .i64 _) rfl rfl rfl rfl ?_
  refine op_pure (pv_quoT (c := t / 3) rfl rfl (by omega) (Int.tdiv_eq_ediv_of_nonneg (by omega)) (by omega)) ?_
  refine op_pure (pv_max rfl rfl) ?_
  refine op_fnMM [] [_] [_, _] (vs := [.pointer _, .int .i64 _, .int .i64 _]) rfl rfl rfl ((Within_ok b x4 1 (max 1 (t / 3)) (by omega) (by omega) (by omega) h4)) ?_
  rintro _ h5 _ E5 ⟨x5, o, rfl, rfl, o1, o2⟩
  refine wp_norm [_, _, _] rfl ?_
  refine op_pure (pv_fieldAddr rfl rfl rfl rfl 4 rfl) ?_
  refine op_storeP 2 (v := .int .i64 _) (vs := [_]) (c' := [_, _, _, _, _, _, _, _, _]) rfl rfl rfl rfl rfl rfl rfl rfl rfl ?_
  refine wp_norm [_, _, _] rfl ?_
  refine goes_more ?_
  refine goes_norm [_, _, _, _] rfl ?_
  refine goes_more ?_
  refine goes_norm [_, _, _, _, _] rfl ?_
  refine goes_more ?_
  refine goes_norm [_, _, _, _, _, _] rfl ?_
  refine goes_more ?_
  refine goes_norm [_, _, _, _, _, _, _] rfl ?_
  refine xp_seq ?_
  refine xp_seq ?_
  refine xp_region rfl ?_
  refine op_pure (pv_move (v := .pointer (some ⟨b, 0, none⟩)) rfl) ?_
  refine op_fnMM [] [_] [_, _, _, _, _, _] (vs := [.pointer _, .int .i64 _]) rfl rfl rfl ((Upto_ok b x5 3 (by omega) h5)) ?_
  rintro _ h6 _ E6 ⟨x6, i0, rfl, rfl, i01, i02⟩
  refine wp_norm [_, _, _, _, _, _, _] rfl ?_
  refine op_pure (pv_assign (v := .int .i64 _) rfl) ?_
  refine xp_block ?_
  refine xp_loopL [10, 37, 38, 39, 40, 41, 42, 43, 44, 45, 46, 47, 48, 49, 50] 7 (α := Int × Nat × List Int × Acc) (fun ⟨i, y, bs, a⟩ => [(10, .int .i64 i)]) (fun ⟨i, y, bs, a⟩ L => ((L.set 0 (some (b, .cells #[.int .u64 (y : Int)] 76 (0, 0)))).set 2 (some (b9, .cells #[.int .i64 r, .int .i64 v, .int .i64 g, .int .i64 t, .int .i64 o, .slice a.A a.n a.c, .slice none 0 0, .slice none 0 0, .slice none 0 0] 28 (0, 0)))).set 3 (a.p)) (fun ⟨i, y, bs, a⟩ h_i => (0 ≤ i ∧ i + bs.length ≤ 3) ∧ (∀ z ∈ bs, 0 ≤ z ∧ z < r) ∧ AccR 3 1 (bs.flatMap intC) a) (fun ⟨i, y, bs, a⟩ => i.toNat) ((i0, x6, [], acc0)) ⟨rfl, trivial⟩ (rfl) (⟨⟨by omega, by simp; omega⟩, fun _ hz => absurd hz List.not_mem_nil, accR0⟩) ?_
  rintro ⟨i, y, bs, a⟩ T1 h_i E_i J_i
  refine goes_norm [_, _, _, _, _, _, _] rfl ?_
  obtain ⟨⟨K1, K2⟩, K3, KA⟩ := J_i
  refine xp_seq ?_
  refine xp_seq ?_
  refine xp_region rfl ?_
  refine op_pure (pv_move (v := .int .i64 _) rfl) ?_
  refine op_pure (pv_of (v := .bool _) rfl) ?_
  refine xp_cond rfl (fun ht => ?_) (fun ht => ?_)
  · skip
    have hi : 0 < i := of_decide_eq_true ht
    refine xp_skip ?_
    refine xp_seq ?_
    refine xp_block ?_
    refine xp_dw [true, false, false, false, false, false, false] rfl rfl rfl ?_
    refine dw_pure (i := 0) rfl (by decide +kernel) (pv_fieldAddr rfl rfl rfl rfl 5 rfl) ?_
    refine dw_load (i := 1) rfl (by decide +kernel) ?_
    refine op_loadP 2 (v := .slice _ _ _) rfl rfl rfl rfl ?_
    refine dw_pure (i := 2) rfl (by decide +kernel) (pv_move (v := .pointer (some ⟨b, 0, none⟩)) rfl) ?_
    refine dw_pure (i := 3) rfl (by decide +kernel) (pv_fieldAddr rfl rfl rfl rfl 0 rfl) ?_
    refine dw_load (i := 4) rfl (by decide +kernel) ?_
    refine op_loadP 2 (v := .int .i64 _) rfl rfl rfl rfl ?_
    refine dw_pure (i := 5) rfl (by decide +kernel) (pv_arith rfl (by omega)) ?_
    refine dw_eff (i := 6) rfl (by decide +kernel) ?_
    refine op_fnMM [] [_] [_, _, _, _, _, _] (vs := [.pointer _, .int .i64 _]) rfl rfl rfl ((Upto_ok b y (r - 1) (by omega) h_i)) ?_
    rintro _ h7 _ E7 ⟨y2, z, rfl, rfl, z1, z2⟩
    refine ⟨ext_wlm E7 _, ?_⟩
    refine dw_norm [_, _, _, _, _, _, _] rfl ?_
    refine dw_eff (i := 7) rfl (by decide +kernel) ?_
    refine op_buildSlice (zc := [_]) (vs := [(0, .int .i64 _)]) (cs := [_]) rfl rfl rfl rfl rfl rfl rfl fun b48 hb48 => ?_
    refine ⟨ext_newM hb48 _, ?_⟩
    refine dw_norm [_, _, _, _, _, _, _, _] rfl ?_
    refine dw_last (i := 8) rfl (by decide +kernel) (by decide +kernel) ?_
    refine op_appendR 3 KA rfl rfl rfl (fun V => rdP V (i := 7) rfl) rfl rfl rfl rfl rfl rfl rfl rfl rfl (by omega) rfl (by rw [flat_len (m := 1) (fun _ _ => rfl)]; simp; omega) fun a2 h2a E2a ha2 => ?_
    refine dw_norm [_, _, _, _, _, _, _, _] rfl ?_
    refine dw_pure (i := 9) rfl (by decide +kernel) (pv_fieldAddr rfl rfl rfl rfl 5 rfl) ?_
    refine dw_last (i := 10) rfl (by decide +kernel) (by decide +kernel) ?_
    refine op_storeP 2 (v := .slice _ _ _) (vs := [_]) (c' := [_, _, _, _, _, _, _, _, _]) rfl rfl rfl rfl rfl rfl rfl rfl rfl ?_
    refine dw_norm [_, _, _, _, _, _, _, _] rfl ?_
    refine dw_end rfl ?_
    refine xp_region rfl ?_
    refine op_pure (pv_move (v := .int .i64 _) rfl) ?_
    refine op_pure (pv_arith rfl (by omega)) ?_
    refine op_pure (pv_assign (v := .int .i64 _) rfl) ?_
    refine ⟨(i - 1, y2, bs ++ [z], a2), ⟨rfl, trivial⟩, rfl, rfl, (Ext.trans (Ext.trans E_i E7) E2a), fun h3 E3 => ⟨⟨by omega, by simp; omega⟩, mem_one K3 ⟨z1, by omega⟩, by rw [List.flatMap_append]; exact ha2⟩, by first | omega | (dsimp only; omega), ?_⟩
    repeat (first | exact off_base _ _ _ | refine off_upd (by decide) ?_ | refine off_updL rfl ?_ | refine off_mix rfl ?_)
  · skip
    have hi0 : i = 0 := by have := of_decide_eq_false ht; omega
    obtain ⟨pB, AB, nB, cB⟩ := a
    obtain rfl : nB = bs.length := by have := AccR.len KA; rw [flat_len (m := 1) (fun _ _ => rfl)] at this; dsimp only at this; omega
    dsimp only at *
    refine goes_pubO 3 rfl ?_
    intro gB GB PB
    refine goes_norm [_, _, _, _, _, _, _] rfl ?_
    have RB : Row gB 1 intC AB bs := ⟨fun _ _ => rfl, AccR.rd KA PB⟩
    refine xp_exit ?_
    refine xp_seq ?_
    refine xp_seq ?_
    refine xp_region rfl ?_
    refine op_pure (pv_move (v := .pointer (some ⟨b, 0, none⟩)) rfl) ?_
    refine op_pure (pv_move (v := .int .i64 _) rfl) ?_
    refine op_fnMM [] [_] [_, _, _, _, _, _] (vs := [.pointer _, .int .i64 _]) rfl rfl rfl ((Upto_ok b y pins (by omega) gB)) ?_
    rintro _ h8 _ E8 ⟨x8, j0, rfl, rfl, j01, j02⟩
    refine wp_norm [_, _, _, _, _, _, _] rfl ?_
    refine op_pure (pv_assign (v := .int .i64 _) rfl) ?_
    refine xp_block ?_
    refine xp_loopL [11, 54, 55, 56, 57, 58, 59, 60, 61, 62, 63, 64, 65, 66, 67, 68, 69, 70, 71, 72, 73, 74, 75, 76, 77, 78] 7 (α := Int × Nat × List PinP × Acc) (fun ⟨j, y, qs, a⟩ => [(11, .int .i64 j)]) (fun ⟨j, y, qs, a⟩ L => ((L.set 0 (some (b, .cells #[.int .u64 (y : Int)] 76 (0, 0)))).set 2 (some (b9, .cells #[.int .i64 r, .int .i64 v, .int .i64 g, .int .i64 t, .int .i64 o, .slice AB bs.length cB, .slice a.A a.n a.c, .slice none 0 0, .slice none 0 0] 28 (0, 0)))).set 4 (a.p)) (fun ⟨j, y, qs, a⟩ h_j => (0 ≤ j ∧ j + qs.length ≤ pins) ∧ (∀ p ∈ qs, (0 ≤ p.rod ∧ p.rod < r) ∧ (0 ≤ p.lever ∧ p.lever < v) ∧ (0 ≤ p.lag ∧ p.lag ≤ t)) ∧ AccR 79 3 (qs.flatMap pinC) a) (fun ⟨j, y, qs, a⟩ => j.toNat) ((j0, x8, [], acc0)) ⟨rfl, trivial⟩ (rfl) (⟨⟨by omega, by simp; omega⟩, fun _ hz => absurd hz List.not_mem_nil, accR0⟩) ?_
    rintro ⟨j, y, qs, a⟩ T3 h_j E_j J_j
    refine goes_norm [_, _, _, _, _, _, _] rfl ?_
    obtain ⟨⟨L1, L2⟩, L3, KA⟩ := J_j
    refine xp_seq ?_
    refine xp_seq ?_
    refine xp_region rfl ?_
    refine op_pure (pv_move (v := .int .i64 _) rfl) ?_
    refine op_pure (pv_of (v := .bool _) rfl) ?_
    refine xp_cond rfl (fun hu => ?_) (fun hu => ?_)
    · skip
      have hj : 0 < j := of_decide_eq_true hu
      refine xp_skip ?_
      refine xp_seq ?_
      refine xp_block ?_
      refine xp_dw [true, false, false, false, false, false, false] rfl rfl rfl ?_
      refine dw_pure (i := 0) rfl (by decide +kernel) (pv_fieldAddr rfl rfl rfl rfl 6 rfl) ?_
      refine dw_load (i := 1) rfl (by decide +kernel) ?_
      refine op_loadP 2 (v := .slice _ _ _) rfl rfl rfl rfl ?_
      refine dw_pure (i := 2) rfl (by decide +kernel) (pv_move (v := .pointer (some ⟨b, 0, none⟩)) rfl) ?_
      refine dw_pure (i := 3) rfl (by decide +kernel) (pv_fieldAddr rfl rfl rfl rfl 0 rfl) ?_
      refine dw_load (i := 4) rfl (by decide +kernel) ?_
      refine op_loadP 2 (v := .int .i64 _) rfl rfl rfl rfl ?_
      refine dw_pure (i := 5) rfl (by decide +kernel) (pv_arith rfl (by omega)) ?_
      refine dw_pure (i := 7) rfl (by decide +kernel) (pv_move (v := .pointer (some ⟨b, 0, none⟩)) rfl) ?_
      refine dw_pure (i := 8) rfl (by decide +kernel) (pv_fieldAddr rfl rfl rfl rfl 1 rfl) ?_
      refine dw_load (i := 9) rfl (by decide +kernel) ?_
      refine op_loadP 2 (v := .int .i64 _) rfl rfl rfl rfl ?_
      refine dw_pure (i := 10) rfl (by decide +kernel) (pv_arith rfl (by omega)) ?_
      refine dw_pure (i := 12) rfl (by decide +kernel) (pv_move (v := .pointer (some ⟨b, 0, none⟩)) rfl) ?_
      refine dw_pure (i := 13) rfl (by decide +kernel) (pv_fieldAddr rfl rfl rfl rfl 3 rfl) ?_
      refine dw_load (i := 14) rfl (by decide +kernel) ?_
      refine op_loadP 2 (v := .int .i64 _) rfl rfl rfl rfl ?_
      refine dw_pure (i := 15) rfl (by decide +kernel) (pv_quoT (c := t / 2) rfl rfl (by omega) (Int.tdiv_eq_ediv_of_nonneg (by omega)) (by omega)) ?_
      refine dw_eff (i := 6) rfl (by decide +kernel) ?_
      refine op_fnMM [] [_] [_, _, _, _, _, _] (vs := [.pointer _, .int .i64 _]) rfl rfl rfl ((Upto_ok b y (r - 1) (by omega) h_j)) ?_
      rintro _ h9 _ E9 ⟨y2, z, rfl, rfl, z1, z2⟩
      refine ⟨ext_wlm E9 _, ?_⟩
      refine dw_norm [_, _, _, _, _, _, _] rfl ?_
      refine dw_eff (i := 11) rfl (by decide +kernel) ?_
      refine op_fnMM [] [_] [_, _, _, _, _, _] (vs := [.pointer _, .int .i64 _]) rfl rfl rfl ((Upto_ok b y2 (v - 1) (by omega) h9)) ?_
      rintro _ h10 _ E10 ⟨y3, w, rfl, rfl, w1, w2⟩
      refine ⟨ext_wlm E10 _, ?_⟩
      refine dw_norm [_, _, _, _, _, _, _] rfl ?_
      refine dw_eff (i := 16) rfl (by decide +kernel) ?_
      refine op_fnMM [] [_] [_, _, _, _, _, _] (vs := [.pointer _, .int .i64 _]) rfl rfl rfl ((Upto_ok b y3 (t / 2) (by omega) h10)) ?_
      rintro _ h11 _ E11 ⟨y4, e, rfl, rfl, e1, e2⟩
      refine ⟨ext_wlm E11 _, ?_⟩
      refine dw_norm [_, _, _, _, _, _, _] rfl ?_
      refine dw_pure (i := 17) rfl (by decide +kernel) (pv_build (zc := [_, _, _]) (vs := [(0, .int .i64 _), (1, .int .i64 _), (2, .int .i64 _)]) (cs := [_, _, _]) rfl rfl rfl rfl rfl rfl) ?_
      refine dw_eff (i := 18) rfl (by decide +kernel) ?_
      refine op_buildSlice (zc := [_, _, _]) (vs := [(0, .agg #[.int .i64 _, .int .i64 _, .int .i64 _])]) (cs := [_, _, _]) rfl rfl rfl rfl rfl rfl rfl fun b76 hb76 => ?_
      refine ⟨ext_newM hb76 _, ?_⟩
      refine dw_norm [_, _, _, _, _, _, _, _] rfl ?_
      refine dw_last (i := 19) rfl (by decide +kernel) (by decide +kernel) ?_
      refine op_appendR 4 KA rfl rfl rfl (fun V => rdP V (i := 7) rfl) rfl rfl rfl rfl rfl rfl rfl rfl rfl (by omega) rfl (by rw [flat_len (m := 3) (fun _ _ => rfl)]; simp; omega) fun a2 h4a E4a ha2 => ?_
      refine dw_norm [_, _, _, _, _, _, _, _] rfl ?_
      refine dw_pure (i := 20) rfl (by decide +kernel) (pv_fieldAddr rfl rfl rfl rfl 6 rfl) ?_
      refine dw_last (i := 21) rfl (by decide +kernel) (by decide +kernel) ?_
      refine op_storeP 2 (v := .slice _ _ _) (vs := [_]) (c' := [_, _, _, _, _, _, _, _, _]) rfl rfl rfl rfl rfl rfl rfl rfl rfl ?_
      refine dw_norm [_, _, _, _, _, _, _, _] rfl ?_
      refine dw_end rfl ?_
      refine xp_region rfl ?_
      refine op_pure (pv_move (v := .int .i64 _) rfl) ?_
      refine op_pure (pv_arith rfl (by omega)) ?_
      refine op_pure (pv_assign (v := .int .i64 _) rfl) ?_
      refine ⟨(j - 1, y4, qs ++ [⟨z, w, e⟩], a2), ⟨rfl, trivial⟩, rfl, rfl, (Ext.trans (Ext.trans (Ext.trans (Ext.trans E_j E9) E10) E11) E4a), fun h3 E3 => ⟨⟨by omega, by simp; omega⟩, mem_one L3 ⟨⟨z1, by show z < r; omega⟩, ⟨w1, by show w < v; omega⟩, ⟨e1, by show e ≤ t; omega⟩⟩, by rw [List.flatMap_append]; exact ha2⟩, by first | omega | (dsimp only; omega), ?_⟩
      repeat (first | exact off_base _ _ _ | refine off_upd (by decide) ?_ | refine off_updL rfl ?_ | refine off_mix rfl ?_)
    · skip
      have hj0 : j = 0 := by have := of_decide_eq_false hu; omega
      obtain ⟨pP, AQ, nP, cQ⟩ := a
      obtain rfl : nP = qs.length := by have := AccR.len KA; rw [flat_len (m := 3) (fun _ _ => rfl)] at this; dsimp only at this; omega
      dsimp only at *
      have hcQ : qs.length ≤ cQ := AccP.cap KA (by omega)
      refine goes_pubO 4 rfl ?_
      intro gP GP PP
      refine goes_norm [_, _, _, _, _, _, _] rfl ?_
      have RP : Row gP 3 pinC AQ qs := ⟨fun _ _ => rfl, AccR.rd KA PP⟩
      refine xp_exit ?_
      refine xp_cutB [12, 13, 79, 80, 81, 82, 83, 84, 85, 86, 87, 88, 89, 90, 91, 92, 93, 94, 95, 96, 97, 98, 99, 100, 101, 102, 103, 104, 105, 106, 107, 108, 109, 110, 111, 112, 113, 114, 115, 116, 117, 118, 119, 120, 121, 122, 123, 124, 125] 7 (α := Nat × List LinkP × Acc) (fun ⟨y, ls, a⟩ => []) (fun ⟨y, ls, a⟩ L => ((L.set 0 (some (b, .cells #[.int .u64 (y : Int)] 76 (0, 0)))).set 2 (some (b9, .cells #[.int .i64 r, .int .i64 v, .int .i64 g, .int .i64 t, .int .i64 o, .slice AB bs.length cB, .slice AQ qs.length cQ, .slice a.A a.n a.c, .slice none 0 0] 28 (0, 0)))).set 5 (a.p)) (fun ⟨y, ls, a⟩ h_y => (ls.length : Int) ≤ links ∧ (∀ p ∈ ls, (0 ≤ p.frm ∧ p.frm < r) ∧ (0 ≤ p.to ∧ p.to < r) ∧ p.frm ≠ p.to ∧ (-1 ≤ p.reg ∧ p.reg < g) ∧ (1 ≤ p.lag ∧ p.lag ≤ t)) ∧ AccR 81 4 (ls.flatMap linkC) a) ?_ ?_
      · skip
        refine xp_seq ?_
        refine xp_region rfl ?_
        refine op_pure (pv_move (v := .pointer (some ⟨b, 0, none⟩)) rfl) ?_
        refine op_pure (pv_move (v := .int .i64 _) rfl) ?_
        refine op_fnMM [] [_] [_, _, _, _, _, _] (vs := [.pointer _, .int .i64 _]) rfl rfl rfl ((Upto_ok b y links (by omega) gP)) ?_
        rintro _ h12 _ E12 ⟨x12, k0, rfl, rfl, k01, k02⟩
        refine wp_norm [_, _, _, _, _, _, _] rfl ?_
        refine op_pure (pv_assign (v := .int .i64 _) rfl) ?_
        refine xp_block ?_
        refine xp_loopL [12, 13, 82, 83, 84, 85, 86, 87, 88, 89, 90, 91, 92, 93, 94, 95, 96, 97, 98, 99, 100, 101, 102, 103, 104, 105, 106, 107, 108, 109, 110, 111, 112, 113, 114, 115, 116, 117, 118, 119, 120, 121, 122, 123, 124, 125] 7 (α := Int × Nat × List LinkP × Acc) (fun ⟨k, y, ls, a⟩ => [(12, .int .i64 k)]) (fun ⟨k, y, ls, a⟩ L => ((L.set 0 (some (b, .cells #[.int .u64 (y : Int)] 76 (0, 0)))).set 2 (some (b9, .cells #[.int .i64 r, .int .i64 v, .int .i64 g, .int .i64 t, .int .i64 o, .slice AB bs.length cB, .slice AQ qs.length cQ, .slice a.A a.n a.c, .slice none 0 0] 28 (0, 0)))).set 5 (a.p)) (fun ⟨k, y, ls, a⟩ h_k => (0 ≤ k ∧ k + ls.length ≤ links) ∧ (∀ p ∈ ls, (0 ≤ p.frm ∧ p.frm < r) ∧ (0 ≤ p.to ∧ p.to < r) ∧ p.frm ≠ p.to ∧ (-1 ≤ p.reg ∧ p.reg < g) ∧ (1 ≤ p.lag ∧ p.lag ≤ t)) ∧ AccR 81 4 (ls.flatMap linkC) a) (fun ⟨k, y, ls, a⟩ => k.toNat) ((k0, x12, [], acc0)) ⟨rfl, trivial⟩ (rfl) (⟨⟨by omega, by simp; omega⟩, fun _ hz => absurd hz List.not_mem_nil, accR0⟩) ?_
        rintro ⟨k, y, ls, a⟩ T6 h_k E_k J_k
        refine goes_norm [_, _, _, _, _, _, _] rfl ?_
        obtain ⟨⟨N1, N2⟩, N3, KA⟩ := J_k
        refine xp_seq ?_
        refine xp_seq ?_
        refine xp_region rfl ?_
        refine op_pure (pv_move (v := .int .i64 _) rfl) ?_
        refine op_pure (pv_of (v := .bool _) rfl) ?_
        refine op_pure (pv_move (v := .bool _) rfl) ?_
        rcases Bool.eq_false_or_eq_true (decide (k > 0)) with hk | hk
        · skip
          have hk0 : k > 0 := of_decide_eq_true hk
          refine guard_yes rfl hk ?_
          refine op_pure (pv_fieldAddr rfl rfl rfl rfl 0 rfl) ?_
          refine guard_yes rfl hk ?_
          refine op_loadP 2 (v := .int .i64 _) rfl rfl rfl rfl ?_
          refine guard_yes rfl hk ?_
          refine op_pure (pv_of (v := .bool _) rfl) ?_
          refine op_pure (pv_pickT rfl hk (v := .bool _) rfl) ?_
          refine xp_cond rfl (fun hr => ?_) (fun hr => ?_)
          · skip
            have hr1 : r > 1 := of_decide_eq_true hr
            refine xp_skip ?_
            refine xp_seq ?_
            refine xp_block ?_
            refine xp_seq ?_
            refine xp_dw [true, false, false, false, false, false, false] rfl rfl rfl ?_
            refine dw_pure (i := 0) rfl (by decide +kernel) (pv_move (v := .pointer (some ⟨b, 0, none⟩)) rfl) ?_
            refine dw_pure (i := 1) rfl (by decide +kernel) (pv_fieldAddr rfl rfl rfl rfl 0 rfl) ?_
            refine dw_load (i := 2) rfl (by decide +kernel) ?_
            refine op_loadP 2 (v := .int .i64 _) rfl rfl rfl rfl ?_
            refine dw_pure (i := 3) rfl (by decide +kernel) (pv_arith rfl (by omega)) ?_
            refine dw_pure (i := 5) rfl (by decide +kernel) (pv_move (v := .pointer (some ⟨b, 0, none⟩)) rfl) ?_
            refine dw_pure (i := 6) rfl (by decide +kernel) (pv_fieldAddr rfl rfl rfl rfl 2 rfl) ?_
            refine dw_load (i := 7) rfl (by decide +kernel) ?_
            refine op_loadP 2 (v := .int .i64 _) rfl rfl rfl rfl ?_
            refine dw_pure (i := 8) rfl (by decide +kernel) (pv_arith rfl (by omega)) ?_
            refine dw_pure (i := 10) rfl (by decide +kernel) (pv_move (v := .pointer (some ⟨b, 0, none⟩)) rfl) ?_
            refine dw_pure (i := 11) rfl (by decide +kernel) (pv_fieldAddr rfl rfl rfl rfl 3 rfl) ?_
            refine dw_load (i := 12) rfl (by decide +kernel) ?_
            refine op_loadP 2 (v := .int .i64 _) rfl rfl rfl rfl ?_
            refine dw_pure (i := 13) rfl (by decide +kernel) (pv_quoT (c := t / 3) rfl rfl (by omega) (Int.tdiv_eq_ediv_of_nonneg (by omega)) (by omega)) ?_
            refine dw_pure (i := 14) rfl (by decide +kernel) (pv_max rfl rfl) ?_
            refine dw_eff (i := 4) rfl (by decide +kernel) ?_
            refine op_fnMM [] [_] [_, _, _, _, _, _] (vs := [.pointer _, .int .i64 _]) rfl rfl rfl ((Upto_ok b y (r - 1) (by omega) h_k)) ?_
            rintro _ h13 _ E13 ⟨y2, z, rfl, rfl, z1, z2⟩
            refine ⟨ext_wlm E13 _, ?_⟩
            refine dw_norm [_, _, _, _, _, _, _] rfl ?_
            refine dw_eff (i := 9) rfl (by decide +kernel) ?_
            refine op_fnMM [] [_] [_, _, _, _, _, _] (vs := [.pointer _, .int .i64 _, .int .i64 _]) rfl rfl rfl ((Within_ok b y2 (-1) (g - 1) (by omega) (by omega) (by omega) h13)) ?_
            rintro _ h14 _ E14 ⟨y3, e, rfl, rfl, e1, e2⟩
            refine ⟨ext_wlm E14 _, ?_⟩
            refine dw_norm [_, _, _, _, _, _, _] rfl ?_
            refine dw_last (i := 15) rfl (by decide +kernel) (by decide +kernel) ?_
            refine op_fnMM [] [_] [_, _, _, _, _, _] (vs := [.pointer _, .int .i64 _, .int .i64 _]) rfl rfl rfl ((Within_ok b y3 1 (max 1 (t / 3)) (by omega) (by omega) (by omega) h14)) ?_
            rintro _ h15 _ E15 ⟨y4, w, rfl, rfl, w1, w2⟩
            refine dw_norm [_, _, _, _, _, _, _] rfl ?_
            refine dw_pure (i := 16) rfl (by decide +kernel) (pv_build (zc := [_, _, _, _]) (vs := [(0, .int .i64 _), (2, .int .i64 _), (3, .int .i64 _)]) (cs := [_, _, _, _]) rfl rfl rfl rfl rfl rfl) ?_
            refine dw_eff (i := 17) rfl (by decide +kernel) ?_
            refine op_alloc (cs := [_, _, _, _]) rfl rfl fun b13 hb13 => ?_
            refine ⟨ext_newM hb13 _, ?_⟩
            refine dw_norm [_, _, _, _, _, _, _, _] rfl ?_
            refine dw_last (i := 18) rfl (by decide +kernel) (by decide +kernel) ?_
            refine op_storeP 7 (v := .agg #[.int .i64 _, .int .i64 _, .int .i64 _, .int .i64 _]) (vs := [_, _, _, _]) (c' := [_, _, _, _]) rfl rfl rfl rfl rfl rfl rfl rfl rfl ?_
            refine dw_norm [_, _, _, _, _, _, _, _] rfl ?_
            refine dw_end rfl ?_
            refine xp_seq ?_
            refine xp_dw [true, false, false, false, false, false, false, false] rfl rfl rfl ?_
            refine dw_pure (i := 0) rfl (by decide +kernel) (pv_fieldAddr rfl rfl rfl rfl 0 rfl) ?_
            refine dw_load (i := 1) rfl (by decide +kernel) ?_
            refine op_loadP 7 (v := .int .i64 _) rfl rfl rfl rfl ?_
            refine dw_pure (i := 2) rfl (by decide +kernel) (pv_move (v := .pointer (some ⟨b, 0, none⟩)) rfl) ?_
            refine dw_pure (i := 3) rfl (by decide +kernel) (pv_fieldAddr rfl rfl rfl rfl 0 rfl) ?_
            refine dw_load (i := 4) rfl (by decide +kernel) ?_
            refine op_loadP 2 (v := .int .i64 _) rfl rfl rfl rfl ?_
            refine dw_pure (i := 5) rfl (by decide +kernel) (pv_arith rfl (by omega)) ?_
            refine dw_pure (i := 8) rfl (by decide +kernel) (pv_fieldAddr rfl rfl rfl rfl 0 rfl) ?_
            refine dw_load (i := 9) rfl (by decide +kernel) ?_
            refine op_loadP 2 (v := .int .i64 _) rfl rfl rfl rfl ?_
            refine dw_eff (i := 6) rfl (by decide +kernel) ?_
            refine op_fnMM [] [_] [_, _, _, _, _, _, _] (vs := [.pointer _, .int .i64 _, .int .i64 _]) rfl rfl rfl ((Within_ok b y4 1 (r - 1) (by omega) (by omega) (by omega) h15)) ?_
            rintro _ h16 _ E16 ⟨y5, d, rfl, rfl, d1, d2⟩
            refine ⟨ext_wlm E16 _, ?_⟩
            refine dw_norm [_, _, _, _, _, _, _, _] rfl ?_
            refine dw_pure (i := 7) rfl (by decide +kernel) (pv_arith rfl (by omega)) ?_
            refine dw_last (i := 10) rfl (by decide +kernel) (by decide +kernel) ?_
            refine op_fn (caps := []) (vs := [.int .i64 _, .int .i64 _]) rfl rfl rfl (Turn_ok (z + d) r (by omega) h16) ?_
            rintro _ h17 E17 rfl
            have tb := turnI_bd (z + d) r
            have tn := turnI_ne (f := z) (d := d) (n := r) (by omega) ⟨z1, by omega⟩ ⟨d1, by omega⟩
            refine dw_pure (i := 11) rfl (by decide +kernel) (pv_fieldAddr rfl rfl rfl rfl 1 rfl) ?_
            refine dw_last (i := 12) rfl (by decide +kernel) (by decide +kernel) ?_
            refine op_storeP 7 (v := .int .i64 _) (vs := [_]) (c' := [_, _, _, _]) rfl rfl rfl rfl rfl rfl rfl rfl rfl ?_
            refine dw_norm [_, _, _, _, _, _, _, _] rfl ?_
            refine dw_end rfl ?_
            refine xp_region rfl ?_
            refine op_pure (pv_fieldAddr rfl rfl rfl rfl 7 rfl) ?_
            refine op_loadP 2 (v := .slice _ _ _) rfl rfl rfl rfl ?_
            refine op_loadPA 7 (vs := [.int .i64 _, .int .i64 _, .int .i64 _, .int .i64 _]) rfl rfl rfl rfl rfl ?_
            refine op_buildSlice (zc := [_, _, _, _]) (vs := [(0, .agg #[.int .i64 _, .int .i64 _, .int .i64 _, .int .i64 _])]) (cs := [_, _, _, _]) rfl rfl rfl rfl rfl rfl rfl fun b123 hb123 => ?_
            refine wp_norm [_, _, _, _, _, _, _, _, _] rfl ?_
            refine op_appendR 5 KA rfl rfl rfl (fun V => rdP V (i := 8) rfl) rfl rfl rfl rfl rfl rfl rfl rfl rfl (by omega) rfl (by rw [flat_len (m := 4) (fun _ _ => rfl)]; simp; omega) fun a2 h7a E7a ha2 => ?_
            refine wp_norm [_, _, _, _, _, _, _, _, _] rfl ?_
            refine op_pure (pv_fieldAddr rfl rfl rfl rfl 7 rfl) ?_
            refine op_storeP 2 (v := .slice _ _ _) (vs := [_]) (c' := [_, _, _, _, _, _, _, _, _]) rfl rfl rfl rfl rfl rfl rfl rfl rfl ?_
            refine wp_norm [_, _, _, _, _, _, _, _, _] rfl ?_
            refine xp_region rfl ?_
            refine op_pure (pv_move (v := .int .i64 _) rfl) ?_
            refine op_pure (pv_arith rfl (by omega)) ?_
            refine op_pure (pv_assign (v := .int .i64 _) rfl) ?_
            refine ⟨(k - 1, y5, ls ++ [⟨z, turnI (z + d) r, e, w⟩], a2), ⟨rfl, trivial⟩, rfl, rfl, (Ext.trans (Ext.trans (Ext.trans (Ext.trans (Ext.trans (Ext.trans E_k E13) E14) E15) E16) E17) E7a), fun h3 E3 => ⟨⟨by omega, by simp; omega⟩, mem_one N3 ⟨⟨z1, by show z < r; omega⟩, ⟨tb.1, tb.2 (by omega)⟩, fun he => tn he.symm, ⟨e1, by show e < g; omega⟩, ⟨w1, by show w ≤ t; omega⟩⟩, by rw [List.flatMap_append]; exact ha2⟩, by first | omega | (dsimp only; omega), ?_⟩
            repeat (first | exact off_base _ _ _ | refine off_upd (by decide) ?_ | refine off_updL rfl ?_ | refine off_mix rfl ?_)
          · skip
            refine xp_exit ?_
            refine ⟨(y, ls, a), trivial, rfl, rfl, (Ext.trans E12 E_k), fun h3 E3 => ⟨by omega, N3, KA⟩, ?_⟩
            repeat (first | exact off_refl _ _ | exact off_base _ _ _ | refine off_upd (by decide) ?_ | refine off_updL rfl ?_ | refine off_mix rfl ?_)
        · skip
          have hk0 : k = 0 := by have := of_decide_eq_false hk; omega
          refine guard_no rfl hk ?_
          refine guard_no rfl hk ?_
          refine guard_no rfl hk ?_
          refine op_pure (pv_pickF rfl hk (v := .bool _) rfl) ?_
          refine xp_condF rfl (rfl) ?_
          refine xp_exit ?_
          refine ⟨(y, ls, a), trivial, rfl, rfl, (Ext.trans E12 E_k), fun h3 E3 => ⟨by omega, N3, KA⟩, ?_⟩
          repeat (first | exact off_refl _ _ | exact off_base _ _ _ | refine off_upd (by decide) ?_ | refine off_updL rfl ?_ | refine off_mix rfl ?_)
      · rintro ⟨y, ls, a⟩ T5 h_y E_y J_y
        refine goes_norm [_, _, _, _, _, _, _] rfl ?_
        obtain ⟨N1, N3, KA⟩ := J_y
        obtain ⟨pL, AL, nL, cL⟩ := a
        obtain rfl : nL = ls.length := by have := AccR.len KA; rw [flat_len (m := 4) (fun _ _ => rfl)] at this; dsimp only at this; omega
        dsimp only at *
        have hcL : ls.length ≤ cL := AccP.cap KA (by omega)
        refine goes_pubO 5 rfl ?_
        intro gL GL PL
        refine goes_norm [_, _, _, _, _, _, _] rfl ?_
        have RL : Row gL 4 linkC AL ls := ⟨fun _ _ => rfl, AccR.rd KA PL⟩
        refine xp_seq ?_
        refine xp_seq ?_
        refine xp_region rfl ?_
        refine op_pure (pv_assign (v := .int .i64 _) rfl) ?_
        refine xp_block ?_
        refine xp_loopL [14, 126, 127, 128, 129, 130, 131, 132, 133, 134, 135, 136, 137, 138] 7 (α := Nat × Nat × List Int × Acc) (fun ⟨k, y, ws, a⟩ => [(14, .int .i64 k)]) (fun ⟨k, y, ws, a⟩ L => ((L.set 0 (some (b, .cells #[.int .u64 (y : Int)] 76 (0, 0)))).set 2 (some (b9, .cells #[.int .i64 r, .int .i64 v, .int .i64 g, .int .i64 t, .int .i64 o, .slice AB bs.length cB, .slice AQ qs.length cQ, .slice AL ls.length cL, .slice a.A a.n a.c] 28 (0, 0)))).set 6 (a.p)) (fun ⟨k, y, ws, a⟩ h_k => (k ≤ v.toNat ∧ ws.length = k) ∧ (∀ z ∈ ws, 0 ≤ z ∧ z ≤ 50) ∧ AccR 3 1 (ws.flatMap intC) a) (fun ⟨k, y, ws, a⟩ => v.toNat - k) ((0, y, [], acc0)) ⟨rfl, trivial⟩ (rfl) (⟨⟨by omega, rfl⟩, fun _ hz => absurd hz List.not_mem_nil, accR0⟩) ?_
        rintro ⟨k, y, ws, a⟩ T8 h_k E_k J_k
        refine goes_norm [_, _, _, _, _, _, _] rfl ?_
        obtain ⟨⟨M1, M2⟩, M3, KA⟩ := J_k
        refine xp_seq ?_
        refine xp_seq ?_
        refine xp_region rfl ?_
        refine op_pure (pv_move (v := .int .i64 _) rfl) ?_
        refine op_pure (pv_fieldAddr rfl rfl rfl rfl 1 rfl) ?_
        refine op_loadP 2 (v := .int .i64 _) rfl rfl rfl rfl ?_
        refine op_pure (pv_of (v := .bool _) rfl) ?_
        refine xp_cond rfl (fun hw => ?_) (fun hw => ?_)
        · skip
          have hkv : (k : Int) < v := of_decide_eq_true hw
          refine xp_skip ?_
          refine xp_seq ?_
          refine xp_block ?_
          refine xp_dw [true, false, false, false, false, false, false] rfl rfl rfl ?_
          refine dw_pure (i := 0) rfl (by decide +kernel) (pv_fieldAddr rfl rfl rfl rfl 8 rfl) ?_
          refine dw_load (i := 1) rfl (by decide +kernel) ?_
          refine op_loadP 2 (v := .slice _ _ _) rfl rfl rfl rfl ?_
          refine dw_pure (i := 2) rfl (by decide +kernel) (pv_move (v := .pointer (some ⟨b, 0, none⟩)) rfl) ?_
          refine dw_eff (i := 3) rfl (by decide +kernel) ?_
          refine op_fnMM [] [_] [_, _, _, _, _, _] (vs := [.pointer _, .int .i64 _]) rfl rfl rfl ((Upto_ok b y 9 (by omega) h_k)) ?_
          rintro _ h18 _ E18 ⟨y2, z, rfl, rfl, z1, z2⟩
          refine ⟨ext_wlm E18 _, ?_⟩
          refine dw_norm [_, _, _, _, _, _, _] rfl ?_
          refine dw_eff (i := 4) rfl (by decide +kernel) ?_
          refine op_buildSlice (zc := [_]) (vs := [(0, .int .i64 _)]) (cs := [_]) rfl rfl rfl rfl rfl rfl rfl fun b136 hb136 => ?_
          refine ⟨ext_newM hb136 _, ?_⟩
          refine dw_norm [_, _, _, _, _, _, _, _] rfl ?_
          refine dw_last (i := 5) rfl (by decide +kernel) (by decide +kernel) ?_
          refine op_appendR 6 KA rfl rfl rfl (fun V => rdP V (i := 7) rfl) rfl rfl rfl rfl rfl rfl rfl rfl rfl (by omega) rfl (by rw [flat_len (m := 1) (fun _ _ => rfl)]; simp; omega) fun a2 h9a E9a ha2 => ?_
          refine dw_norm [_, _, _, _, _, _, _, _] rfl ?_
          refine dw_pure (i := 6) rfl (by decide +kernel) (pv_fieldAddr rfl rfl rfl rfl 8 rfl) ?_
          refine dw_last (i := 7) rfl (by decide +kernel) (by decide +kernel) ?_
          refine op_storeP 2 (v := .slice _ _ _) (vs := [_]) (c' := [_, _, _, _, _, _, _, _, _]) rfl rfl rfl rfl rfl rfl rfl rfl rfl ?_
          refine dw_norm [_, _, _, _, _, _, _, _] rfl ?_
          refine dw_end rfl ?_
          refine xp_region rfl ?_
          refine op_pure (pv_move (v := .int .i64 _) rfl) ?_
          refine op_pure (pv_arith rfl (by omega)) ?_
          refine op_pure (pv_assign (v := .int .i64 _) rfl) ?_
          refine ⟨(k + 1, y2, ws ++ [z], a2), ⟨rfl, trivial⟩, rfl, rfl, (Ext.trans (Ext.trans E_k E18) E9a), fun h3 E3 => ⟨⟨by omega, by simp; omega⟩, mem_one M3 ⟨z1, by omega⟩, by rw [List.flatMap_append]; exact ha2⟩, by first | omega | (dsimp only; omega), ?_⟩
          repeat (first | exact off_base _ _ _ | refine off_upd (by decide) ?_ | refine off_updL rfl ?_ | refine off_mix rfl ?_)
        · skip
          have hkv : (k : Int) = v := by have := of_decide_eq_false hw; omega
          obtain ⟨pW, AW, nW, cW⟩ := a
          obtain rfl : nW = ws.length := by have := AccR.len KA; rw [flat_len (m := 1) (fun _ _ => rfl)] at this; dsimp only at this; omega
          dsimp only at *
          refine goes_pubO 6 rfl ?_
          intro gW GW PW
          refine goes_norm [_, _, _, _, _, _, _] rfl ?_
          have RW : Row gW 1 intC AW ws := ⟨fun _ _ => rfl, AccR.rd KA PW⟩
          refine xp_exit ?_
          refine xp_seq ?_
          refine xp_region rfl ?_
          refine op_loadPA 2 (vs := [.int .i64 _, .int .i64 _, .int .i64 _, .int .i64 _, .int .i64 _, .slice _ _ _, .slice _ _ _, .slice _ _ _, .slice _ _ _]) rfl rfl rfl rfl rfl ?_
          refine op_storeP 1 (v := .agg #[.int .i64 _, .int .i64 _, .int .i64 _, .int .i64 _, .int .i64 _, .slice _ _ _, .slice _ _ _, .slice _ _ _, .slice _ _ _]) (vs := [_, _, _, _, _, _, _, _, _]) (c' := [_, _, _, _, _, _, _, _, _]) rfl rfl rfl rfl rfl rfl rfl rfl rfl ?_
          refine wp_norm [_, _, _, _, _, _, _] rfl ?_
          refine xp_ret ?_
          refine res_list (vs := [_]) Try.results6 ⟨resV_agg 1 rfl rfl rfl rfl rfl (vs := [.int .i64 _, .int .i64 _, .int .i64 _, .int .i64 _, .int .i64 _, .slice _ _ _, .slice _ _ _, .slice _ _ _, .slice _ _ _]) rfl, trivial⟩ fun V => ?_
          obtain ⟨h9, E9, e9, V9⟩ := wl_drop [_, _, _, _, _, _] [_] V
          have RB9 := (RB.ext (Ext.trans (Ext.trans (Ext.trans (Ext.trans (Ext.trans (Ext.trans E8 E_j) GP) E_y) GL) E_k) GW)).ext E9
          refine ⟨h9, _, e9, V9, Ext.trans (Ext.trans (Ext.trans (Ext.trans (Ext.trans (Ext.trans (Ext.trans (Ext.trans (Ext.trans (Ext.trans (Ext.trans (Ext.trans (Ext.trans (Ext.trans (Ext.trans E1 E2) E3) E4) E5) E6) E_i) GB) E8) E_j) GP) E_y) GL) E_k) GW) E9, y, ⟨r, v, g, t, o, bs, qs, ls, ws⟩, rfl, ⟨.slice AB bs.length cB, .slice AQ qs.length cQ, .slice AL ls.length cL, .slice AW ws.length cW, rfl, ⟨AB, cB, rfl, RB9⟩, ⟨AQ, cQ, rfl, (RP.ext (Ext.trans (Ext.trans (Ext.trans E_y GL) E_k) GW)).ext E9⟩, ⟨AL, cL, rfl, (RL.ext (Ext.trans E_k GW)).ext E9⟩, ⟨AW, cW, rfl, RW.ext E9⟩⟩, ?_⟩
          exact ⟨⟨⟨⟨r1, by show r ≤ 6; omega⟩, ⟨v1, by show v ≤ 6; omega⟩, ⟨g1, by show g ≤ 2; omega⟩, ⟨by show 1 ≤ t; omega, t2⟩, ⟨o1, by show o ≤ t; omega⟩, by show bs.length ≤ 4; omega, K3, by show qs.length ≤ 8; omega, L3, by show ls.length ≤ 4; omega, N3, by show (ws.length : Int) = v; omega, M3⟩, by show r ≤ size; omega, by show v ≤ size; omega, by show bs.length ≤ 3; omega, by show (qs.length : Int) ≤ pins; omega, N1⟩, capM_of hcQ hcL⟩
theorem MachineOf_ok (b x : Nat) (size pins links : Int) (hs : 1 ≤ size ∧ size ≤ 6) (hp : 0 ≤ pins ∧ pins ≤ 8) (hl : 0 ≤ links ∧ links ≤ 4) (h : AH) :
    FnM Try.prog (.func (.func 6) #[] ([] : List Value).toArray) [.pointer (some ⟨b, 0, none⟩), .int .i64 size, .int .i64 pins, .int .i64 links] h [some (b, .cells #[.int .u64 (x : Int)] 76 (0, 0))]
    (fun v h' M' => ∃ (x' : Nat) (m : MachP), M' = [some (b, .cells #[.int .u64 (x' : Int)] 76 (0, 0))] ∧ MachV h' m v ∧ Made size pins links m) :=
  (MachineOf_okC b x size pins links hs hp hl h).mono fun _ _ _ _ ⟨x', m, e, V, D, _⟩ => ⟨x', m, e, V, D⟩
end
end Go.Proofs.Ytlfbcimcehcomaa
/- Walks: hands that are made of numbers, copies. Conditions: as each theorem states. -/
namespace Go.Proofs.Ytlfbcimcehcomaa
open Go Go.HL Go.Proofs Go.Wx Go.Rd
section
variable [Lvl]
set_option maxRecDepth 100000
theorem set_of {l : List Int} {n : Nat} {k : Int} (e : k = n) (h : ∀ z ∈ l, 0 ≤ z ∧ z < n) (p : l.Pairwise (· < ·)) : SetOK l k := by
  subst e
  exact ⟨h, p⟩
theorem HandOf_ok (b x : Nat) (m : MachP) (hb : m.buttons.length ≤ 100) (hr : 0 ≤ m.regs ∧ m.regs ≤ 100) (AB AQ AL AW : Option Addr) (cB cQ cL cW : Nat) (h : AH) :
    FnM Try.prog (.func (.func 8) #[] ([] : List Value).toArray) [.pointer (some ⟨b, 0, none⟩), machV AB AQ AL AW cB cQ cL cW m] h [some (b, .cells #[.int .u64 (x : Int)] 76 (0, 0))]
    (fun v h' M' => ∃ (x' : Nat) (a : HandP), M' = [some (b, .cells #[.int .u64 (x' : Int)] 76 (0, 0))] ∧ HandV h' a v ∧ HOK m a) := by
  refine fnM_body rfl rfl Try.func8 rfl Try.ntmps8 rfl ?_
  refine xp_seq ?_
  refine xp_region rfl ?_
  refine op_box (v := .agg #[.int .i64 _, .int .i64 _, .int .i64 _, .int .i64 _, .int .i64 _, .slice _ _ _, .slice _ _ _, .slice _ _ _, .slice _ _ _]) (cs := [_, _, _, _, _, _, _, _, _]) rfl rfl fun b3 hb3 => ?_
  refine wp_norm [_, _] rfl ?_
  refine op_alloc (cs := [_, _]) rfl rfl fun b4 hb4 => ?_
  refine wp_norm [_, _, _] rfl ?_
  refine xp_seq ?_
  refine xp_dw [true, false, false] rfl rfl rfl ?_
  refine dw_pure (i := 0) rfl (by decide +kernel) (pv_move (v := .pointer (some ⟨b, 0, none⟩)) rfl) ?_
  refine dw_pure (i := 1) rfl (by decide +kernel) (pv_fieldAddr rfl rfl rfl rfl 5 rfl) ?_
  refine dw_load (i := 2) rfl (by decide +kernel) ?_
  refine op_loadP 1 (v := .slice _ _ _) rfl rfl rfl rfl ?_
  refine dw_pure (i := 3) rfl (by decide +kernel) (pv_len rfl rfl) ?_
  refine dw_pure (i := 5) rfl (by decide +kernel) (pv_move (v := .pointer (some ⟨b, 0, none⟩)) rfl) ?_
  refine dw_pure (i := 6) rfl (by decide +kernel) (pv_fieldAddr rfl rfl rfl rfl 2 rfl) ?_
  refine dw_load (i := 7) rfl (by decide +kernel) ?_
  refine op_loadP 1 (v := .int .i64 _) rfl rfl rfl rfl ?_
  refine dw_eff (i := 4) rfl (by decide +kernel) ?_
  refine op_fnMM [] [_] [_, _] (vs := [.pointer _, .int .i64 _]) rfl rfl rfl ((Pick_ok b x m.buttons.length (by omega) h)) ?_
  rintro _ h1 _ E1 ⟨x1, l, rfl, ⟨A1, c1, rfl, R1⟩, k1, k2, k3⟩
  refine ⟨ext_wlm E1 _, ?_⟩
  refine dw_norm [_, _, _] rfl ?_
  refine dw_last (i := 8) rfl (by decide +kernel) (by decide +kernel) ?_
  refine op_fnMM [] [_] [_, _] (vs := [.pointer _, .int .i64 _]) rfl rfl rfl (fnM_args (by simp only [List.cons.injEq, Value.int.injEq, true_and, and_true]; omega) (Pick_ok b x1 m.regs.toNat (by omega) h1)) ?_
  rintro _ h2 _ E2 ⟨x2, l2, rfl, ⟨A2, c2, rfl, R2⟩, j1, j2, j3⟩
  refine dw_norm [_, _, _] rfl ?_
  refine dw_pure (i := 9) rfl (by decide +kernel) (pv_build (zc := [_, _]) (vs := [(0, .slice _ _ _), (1, .slice _ _ _)]) (cs := [_, _]) rfl rfl rfl rfl rfl rfl) ?_
  refine dw_last (i := 10) rfl (by decide +kernel) (by decide +kernel) ?_
  refine op_storeP 2 (v := .agg #[.slice _ _ _, .slice _ _ _]) (vs := [_, _]) (c' := [_, _]) rfl rfl rfl rfl rfl rfl rfl rfl rfl ?_
  refine dw_norm [_, _, _] rfl ?_
  refine dw_end rfl ?_
  refine xp_ret ?_
  refine res_list (vs := [_]) Try.results8 ⟨resV_agg 2 rfl rfl rfl rfl rfl (vs := [.slice _ _ _, .slice _ _ _]) rfl, trivial⟩ fun V => ?_
  obtain ⟨h9, E9, e9, V9⟩ := wl_drop [_, _] [_] V
  exact ⟨h9, _, e9, V9, Ext.trans (Ext.trans E1 E2) E9, x2, ⟨l, l2⟩, rfl, ⟨_, _, rfl, ⟨A1, c1, rfl, (R1.ext E2).ext E9⟩, ⟨A2, c2, rfl, R2.ext E9⟩⟩, ⟨k1, k2⟩, set_of (by omega) j1 j2⟩
end
end Go.Proofs.Ytlfbcimcehcomaa
/- The own logic, part U: from a walk to the row of a law. Conditions: none. -/
namespace Go.HL
open Go Go.Wx Go.RowKit
/-- What is asked at the end of a law. -/
def lawK (t : Nat) (h0 : AH) : Post
  | .normal, S, D, L, h => D = [] ∧ (Valid h L → Ext h0 (wl h L)) ∧ S t = .bool true
  | .ret, S, D, L, h => D = [] ∧ (Valid h L → Ext h0 (wl h L)) ∧ S t = .bool true
  | _, _, _, _, _ => False
theorem below_of {w w' : World} (se : SameEnv w w') (e : Ext (absH w.heap) (absH w'.heap)) : Below w.heap.size w w' := by
  have hb : ∀ k, k < w.heap.size → w'.heap[k]? = w.heap[k]? := by
    intro k hk
    have h1 : absH w.heap k = some w.heap[k] := Array.getElem?_eq_getElem hk
    have h2 : w'.heap[k]? = some w.heap[k] := e k _ h1
    rw [h2]
    exact (Array.getElem?_eq_getElem hk).symm
  refine ⟨se.os, se.tape, se.output, ?_, hb⟩
  rcases Nat.lt_or_ge w'.heap.size w.heap.size with h1 | h1
  · have h2 := hb w'.heap.size h1
    rw [Array.getElem?_eq_getElem h1] at h2
    simp at h2
  · exact h1
variable [Lvl]
/-- A slice of ints that came in. -/
theorem row_of {w : World} {a : Option Addr} {len cap : Nat} {zs : List Int} (h : (a = none ∧ len = 0 ∧ cap = 0 ∧ zs = []) ∨
    ∃ x, a = some x ∧ len ≤ cap ∧ cap ≤ maxLen ∧ zs.length = cap ∧ (∀ i, i < zs.length → w.cell? (x.add i) = some (.int .i64 (zs.getD i 0))) ∧ ∀ n ∈ zs, (Lit.int .i64 n).wf = true) :
    ∃ l : List Int, l.length = len ∧ Row (absH w.heap) 1 intC a l ∧ len ≤ maxLen ∧ ∀ n ∈ l, (Lit.int .i64 n).wf = true := by
  rcases h with ⟨rfl, rfl, rfl, rfl⟩ | ⟨x, rfl, hl, hm, hz, hc, hw⟩
  · exact ⟨[], rfl, ⟨fun _ h => (by cases h), Rd.nil _ _⟩, Nat.zero_le _, fun _ h => (by cases h)⟩
  · refine ⟨zs.take len, by rw [List.length_take]; omega, ⟨fun _ _ => rfl, ?_⟩, by omega, fun n hn => hw n (List.mem_of_mem_take hn)⟩
    have hflat : ∀ l : List Int, l.flatMap intC = l.map (Value.int .i64) := by
      intro l
      induction l with
      | nil => rfl
      | cons a l ih => simp [List.flatMap_cons, ih, intC]
    rw [hflat]
    intro hne
    have hpos : 0 < zs.length := by
      rcases Nat.eq_zero_or_pos zs.length with h0 | h0
      · rw [List.eq_nil_of_length_eq_zero h0] at hne; simp at hne
      · exact h0
    obtain ⟨g, off, sp⟩ := x
    have h0 := hc 0 hpos
    have hsp : sp = none := by
      cases sp with
      | none => rfl
      | some s =>
        exfalso
        have : w.cell? ((⟨g, off, some s⟩ : Addr).add 0) = none := by
          simp only [Addr.add]
          rw [cell_abs]
          unfold cellA
          split <;> simp
        rw [this] at h0
        cases h0
    subst hsp
    refine ⟨g, off, rfl, fun j u hu => ?_⟩
    have hj : j < zs.length := by
      have := (List.getElem?_eq_some_iff.1 hu).1
      rw [List.length_map, List.length_take] at this
      omega
    have h1 := hc j hj
    rw [cell_abs, add_none] at h1
    rw [h1]
    rw [List.getElem?_map, List.getElem?_take] at hu
    split at hu
    · rw [List.getElem?_eq_getElem hj] at hu
      simp only [Option.map_some, Option.some.injEq] at hu
      rw [← hu]
      simp [List.getD_eq_getElem?_getD, hj]
    · cases hu
end Go.HL
/- The own logic, part Uc: from a walk to the run of a law that starts goroutines. Conditions: none. -/
namespace Go.HL
open Go Go.Wx Go.RowKit Go.Conc Go.ConcN
/-- The run of a law: it ends, true, and leaves what was there. -/
def RunsTrue (P : Program) (f : FuncId) (args : Array Value) (w : World) : Prop :=
  ∃ M last o w' t', runNT P (M + 1) (solo (G (Frame.enter P f args .normal) []) w) #[] = (.ended o w', t') ∧ runN P M (solo (G (Frame.enter P f args .normal) []) w) = .next last ∧ step P last = .ended o w' ∧
    Go.Conc.Good P (fun v W' => v = .bool true ∧ Below w.heap.size w W') last o w' t'
theorem runs_body {P : Program} {f : FuncId} {fn : Func} {c : Code} {args : Array Value} {n t : Nat} {w : World} (hf : P.funcs[f]? = some fn) (hb : fn.body = some c) (hn : fn.ntmps = n) (ha : Nat.ble args.size n = true) (hr : fn.results = #[.tmp t]) (ht : Nat.blt t n = true) (hi : P.inits.idxOf? f = none)
    (x : ∀ h, h = absH w.heap → @xp ⟨true, none, none⟩ P n none c (lawK t h) (argS args) [] [] h) :
    RunsTrue P f args w := by
  letI : Lvl := ⟨true, none, none⟩
  have he : Frame.enter P f args .normal = mk { (default : Frame) with fn := f, kind := .normal, roundOf := none } n (argS args) [] [.code c] := by
    simp [Frame.enter, mk, hf, hb, hn, enter_tmps n args (Nat.le_of_ble_eq_true ha)]
  have hres : ∀ (S : Sl) (w' : World), S t = .bool true → results fn (arr n S) = .pure (.bool true) := by
    intro S w' hs
    unfold results
    rw [hr, List.mapM_toArray]
    have e1 : (arr n S).getD t undef = .bool true := by rw [arr_getD, if_pos (Nat.lt_of_lt_of_le (Nat.lt_succ_self t) (Nat.le_of_ble_eq_true ht)), hs]
    show Sem.pure ((arr n S).getD t undef) = _
    rw [e1]
  have x1 := x _ rfl (absH w.heap) (by have := Fits.nil (valid_nil (Fin.abs w.heap)); rw [wl_nil] at this; exact this) { (default : Frame) with fn := f, kind := .normal, roundOf := none } rfl [] []
  have x2 : Rch P (fun fr cs' H => cs' = [] ∧ fr.mode = .returning ∧ fr.defers = [] ∧ fr.kind = .normal ∧ fr.fn = f ∧ (∃ S, fr.tmps = arr n S ∧ S t = .bool true) ∧ Ext (absH w.heap) H) (mk { (default : Frame) with fn := f, kind := .normal, roundOf := none } n (argS args) [] [.code c]) [] (absH w.heap) := by
    refine x1.bind ?_
    rintro fr cs' H ⟨rfl, e, S', D', L', h', V', kk, a⟩
    cases e with
    | normal =>
      obtain ⟨rfl, ex, hs⟩ := kk
      have a' : fr = mk { (default : Frame) with fn := f, kind := .normal, roundOf := none } n S' [] [] := a
      subst a'
      have hH : H = wl h' L' := by rw [V'.eq]; exact hun_nil _
      subst hH
      refine .ctl (fr' := { mk { (default : Frame) with fn := f, kind := .normal, roundOf := none } n S' [] [] with mode := .returning }) (cs' := []) (fun w => by simp [stepG, stepG.exec, mk]) (.done ⟨rfl, rfl, rfl, rfl, rfl, ⟨S', rfl, hs⟩, ex V'.valid⟩)
    | ret =>
      obtain ⟨rfl, ex, hs⟩ := kk
      obtain ⟨todo, rfl⟩ := a.1 rfl
      have hH : H = wl h' L' := by rw [V'.eq]; exact hun_nil _
      subst hH
      exact .done ⟨rfl, rfl, rfl, rfl, rfl, ⟨S', rfl, hs⟩, ex V'.valid⟩
    | _ => exact kk.elim
  unfold RunsTrue
  rw [he]
  refine x2.ends rfl rfl ?_
  rintro fr cs h w' ⟨rfl, hm, hd, hk, hfn, ⟨S, htm, hs⟩, ex⟩ se rfl
  have hr1 := hres S w' hs
  have hru : (results fn fr.tmps).runT P w' #[] = (.ok (.bool true) w', #[]) := by rw [htm, hr1]; rfl
  have hf' : P.funcs[fr.fn]? = some fn := by rw [hfn]; exact hf
  have hi' : P.inits.idxOf? fr.fn = none := by rw [hfn]; exact hi
  have h1 : stepG P true (G fr []) w' = unwind P true fr [] none w' := by
    simp [stepG, stepG.exec, hm]
  have h2 : unwind P true fr [] none w' = GStep.after (seen P fr.fn #[]) (.ended (.done (.bool true)) w') := by
    unfold unwind
    rw [hd]
    simp only [hm, hf', hru]
    unfold doReturn
    simp only [hk, hi']
    rfl
  refine ⟨rfl, .bool true, seen P fr.fn #[], ?_, fun e he => ?_, rfl, below_of se ex⟩
  · rw [h1, h2]
    simp [GStep.after]
  · simp [seen] at he
end Go.HL
/- Plain: machines that pass the check; what levers do. Conditions: none. -/
namespace Go.Rd
open Go Go.HL Go.Wx
variable [Lvl]
theorem chk_of {m : MachP} (M : MOK m) : chkM m = 0 := by
  unfold chkM
  have h := M.rods; have h2 := M.levers; have h3 := M.regs; have h4 := M.travel; have h5 := M.opn
  rw [if_neg (by simp [inM]; omega), if_neg (by simp [inM]; omega), if_neg (by simp [inM]; omega), if_neg (by simp [inM]; omega), if_neg (by simp [inM]; omega)]
  have b1 : firstErr (checkButtonM m) m.buttons = 0 := firstErr_iff.2 fun b hb => by
    have := M.btn b hb
    unfold checkButtonM
    rw [if_neg (by simp [inM]; omega)]
  have b2 : firstErr (checkPinM m) m.pins = 0 := firstErr_iff.2 fun p hp => by
    obtain ⟨a, b, c⟩ := M.pin p hp
    unfold checkPinM
    rw [if_neg (by simp [inM]; omega), if_neg (by simp [inM]; omega), if_neg (by simp [inM]; omega)]
  have b3 : firstErr (checkLinkM m) m.links = 0 := firstErr_iff.2 fun l hl => by
    obtain ⟨a, b, c, d, e⟩ := M.link l hl
    unfold checkLinkM
    rw [if_neg (by simp [inM]; omega), if_neg (by simp [inM]; omega), if_neg c, if_neg (by simp [inM]; omega), if_neg (by simp [inM]; omega)]
  have b4 : firstErr checkWeightM m.weights = 0 := firstErr_iff.2 fun w hw => by
    have := M.wt w hw
    unfold checkWeightM
    rw [if_neg (by simp [inM]; omega)]
  rw [if_neg (by have := M.bl; omega), b1, if_neg (by decide), if_neg (by have := M.pl; omega), b2, if_neg (by decide), if_neg (by have := M.ll; omega), b3, if_neg (by decide), if_neg (by have := M.wl; omega), b4]
theorem hand_of {m : MachP} {a : HandP} (M : MOK m) (H : HOK m a) : checkHandM m a = 0 := by
  unfold checkHandM
  rw [chk_of M, if_neg (by decide), checkSet_iff.2 H.b, if_neg (by decide), checkSet_iff.2 H.o]
theorem MOK.pins {m : MachP} (M : MOK m) : ∀ p ∈ m.pins, 0 ≤ p.lever ∧ 0 ≤ p.rod := fun p hp => ⟨(M.pin p hp).2.1.1, (M.pin p hp).1.1⟩
theorem MOK.cap {m : MachP} (M : MOK m) {ps : List PinP} {ls : List LinkP} (hp : ps.length ≤ 8) (hl : ls.length ≤ 4)
    (h1 : ∀ p ∈ ps, (0 ≤ p.rod ∧ p.rod < m.rods) ∧ (0 ≤ p.lever ∧ p.lever < m.levers) ∧ (0 ≤ p.lag ∧ p.lag ≤ m.travel))
    (h2 : ∀ l ∈ ls, (0 ≤ l.frm ∧ l.frm < m.rods) ∧ (0 ≤ l.to ∧ l.to < m.rods) ∧ l.frm ≠ l.to ∧ (-1 ≤ l.reg ∧ l.reg < m.regs) ∧ (1 ≤ l.lag ∧ l.lag ≤ m.travel)) : MOK { m with pins := ps, links := ls } :=
  ⟨M.rods, M.levers, M.regs, M.travel, M.opn, M.bl, M.btn, hp, h1, hl, h2, M.wl, M.wt⟩
end Go.Rd
/- The own logic, part GS: a part of an array as a slice. Conditions: none. -/
namespace Go.HL
open Go
variable [Lvl]
section
variable {P : Program} {n : Nat} {d : Option Tmp} {ty : TypeId} {ps : String} {af : Array Edge} {S : Sl}
end
end Go.HL
/- Walks of package rod: how far rods turn. Conditions: as each theorem states. -/
namespace Go.Proofs.Ytlfbcimcehcomaa
open Go Go.HL Go.Proofs Go.Wx Go.Rd
section
variable [Lvl]
set_option maxRecDepth 100000
end
end Go.Proofs.Ytlfbcimcehcomaa
/- Walks of package rod: all faults, machines with some of them. Conditions: as each theorem states. -/
namespace Go.Proofs.Ytlfbcimcehcomaa
open Go Go.HL Go.Proofs Go.Wx Go.Rd
section
variable [Lvl]
set_option maxRecDepth 100000
def pickL (m : MachP) (l : List Int) : List FaultP := l.map fun n => (faultsM m).getD n.toNat (.shut 0)
theorem pickL_fok {m : MachP} (M : MOK m) {l : List Int} (h : ∀ n ∈ l, 0 ≤ n ∧ n < (faultsM m).length) : ∀ f ∈ pickL m l, FOK m f := by
  intro f hf
  obtain ⟨n, hn, rfl⟩ := List.mem_map.1 hf
  have := h n hn
  rw [List.getD_eq_getElem?_getD, List.getElem?_eq_getElem (by omega)]
  exact faults_fok M (List.getElem_mem _)
theorem pick_ok (fs : List FaultP) (hF : fs.length < 2 ^ 20) (l : List Int) (hl : l.length < 2 ^ 19) (hb : ∀ n ∈ l, 0 ≤ n ∧ n < fs.length) (FA A : Option Addr) (cF c : Nat) (h : AH) (RF : Row h 1 faultC FA fs) (R : Row h 1 intC A l) :
    FnT Try.prog 44 #[.slice FA fs.length cF, .slice A l.length c] h (fun v h' => SlR h' 1 faultC (l.map fun n => fs.getD n.toNat (.shut 0)) v) := by
  refine call_body Try.func44 rfl Try.ntmps44 rfl ?_
  refine xp_seq ?_
  refine xp_region rfl ?_
  refine op_pure (pv_assign (v := .slice _ _ _) rfl) ?_
  refine xp_seq ?_
  refine xp_region rfl ?_
  refine op_pure (pv_assign (v := .slice _ _ _) rfl) ?_
  refine xp_seq ?_
  refine xp_seq ?_
  refine xp_region rfl ?_
  refine op_pure (pv_move (v := .slice _ _ _) rfl) ?_
  refine op_pure (pv_len rfl rfl) ?_
  refine op_pure (pv_move (v := .int .i64 _) rfl) ?_
  refine xp_block ?_
  refine goes_more ?_
  refine goes_norm [_] rfl ?_
  refine xp_loopL [5, 7, 10, 11, 12, 13, 14, 15, 16, 17, 18, 19, 20, 21] 1 (α := Nat × Acc) (fun ⟨k, a⟩ => [(5, .slice a.A a.n a.c), (10, .int .i64 k)]) (fun ⟨k, a⟩ L => L.set 0 (a.p)) (fun ⟨k, a⟩ h_k => k ≤ l.length ∧ AccR 155 1 (((l.take k).map fun n => fs.getD n.toNat (.shut 0)).flatMap faultC) a) (fun ⟨k, a⟩ => l.length - k) ((0, acc0)) ⟨rfl, rfl, trivial⟩ (rfl) (⟨Nat.zero_le _, accR0⟩) ?_
  rintro ⟨k, a⟩ T1 h_k E_k J_k
  refine goes_norm [_] rfl ?_
  obtain ⟨K1, K2⟩ := J_k
  refine xp_seq ?_
  refine xp_region rfl ?_
  refine op_pure (pv_of (v := .bool _) rfl) ?_
  refine xp_seq ?_
  refine xp_cond rfl (fun hk => ?_) (fun hk => ?_)
  · skip
    have hkl : k < l.length := ltI hk
    have hbk := hb _ (List.getElem_mem hkl)
    have hlf : l[k].toNat < fs.length := by omega
    have hgd : fs.getD l[k].toNat (.shut 0) = fs[l[k].toNat] := by rw [List.getD_eq_getElem?_getD, List.getElem?_eq_getElem hlf]; rfl
    obtain ⟨g, off, hA, hc⟩ := (R.ext E_k).at (by omega) hkl
    obtain ⟨g2, off2, hB, hd⟩ := (RF.ext E_k).at (by omega) hlf
    rw [← hgd] at hd
    refine xp_skip ?_
    refine xp_seq ?_
    refine xp_block ?_
    refine xp_seq ?_
    refine xp_region rfl ?_
    refine op_pure (pv_indexE rfl hA rfl rfl rfl (by omega) (by omega)) ?_
    refine op_load (v := .int .i64 _) rfl rfl ((hc) 0 _ rfl) ?_
    refine op_pure (pv_assign (v := .int .i64 _) rfl) ?_
    refine xp_region rfl ?_
    refine op_pure (pv_move (v := .slice _ _ _) rfl) ?_
    refine op_pure (pv_move (v := .slice _ _ _) rfl) ?_
    refine op_pure (pv_move (v := .int .i64 _) rfl) ?_
    refine op_pure (pv_indexE rfl hB rfl rfl rfl (by omega) (by omega)) ?_
    refine op_load (v := _) rfl rfl ((hd) 0 _ rfl) ?_
    refine op_buildSlice (m := 1) (zc := [.nilIface]) (vs := [(0, faultV (fs.getD l[k].toNat (.shut 0)))]) (cs := [faultV (fs.getD l[k].toNat (.shut 0))]) rfl rfl rfl rfl rfl rfl (fill_fault _) fun b19 hb19 => ?_
    refine wp_norm [_, _] rfl ?_
    refine op_appendR 0 K2 rfl rfl rfl (fun V => rdP V (i := 1) rfl) rfl (faultP (fs.getD l[k].toNat (.shut 0))) rfl rfl rfl rfl rfl rfl rfl (by omega) rfl (by rw [flat_len (m := 1) (fun _ _ => rfl)]; simp; omega) fun a2 h2a E2a ha2 => ?_
    refine wp_norm [_, _] rfl ?_
    refine op_pure (pv_assign (v := .slice _ _ _) rfl) ?_
    refine xp_region rfl ?_
    refine op_pure (pv_arith rfl (by omega)) ?_
    refine op_pure (pv_move (v := .int .i64 _) rfl) ?_
    refine ⟨(k + 1, a2), ⟨rfl, rfl, trivial⟩, rfl, rfl, (Ext.trans E_k E2a), fun h3 E3 => ⟨hkl, by rw [take_snoc hkl, List.map_append, List.flatMap_append]; exact ha2⟩, by first | omega | (dsimp only; omega), ?_⟩
    repeat (first | exact off_base _ _ _ | refine off_upd (by decide) ?_ | refine off_updL rfl ?_ | refine off_mix rfl ?_)
  · skip
    have hke : k = l.length := by have := geI hk; omega
    subst hke
    rw [List.take_length] at K2
    refine xp_exit ?_
    refine xp_seq ?_
    refine xp_region rfl ?_
    refine op_pure (pv_move (v := .slice _ _ _) rfl) ?_
    refine op_pure (pv_assign (v := .slice _ _ _) rfl) ?_
    refine xp_ret ?_
    refine res_list (vs := [_]) Try.results44 ⟨resV_tmp rfl rfl, trivial⟩ fun V => ?_
    exact ⟨(Ext.trans E_k (ext_wl V)), AccP.row (i := 0) K2 (by omega) (fun _ _ => rfl) V rfl⟩
theorem soundsB_small {m : MachP} (M : MOK m) {l : List FaultP} (hf : ∀ f ∈ l, FOK m f) (a : HandP) : soundsB m l a < 2 ^ 60 := by
  have PF := pfit_of (brk_mok M l)
  have h1 := sounds_small PF a m.travel
  have h2 := brk_bits M.levers.2 hf
  unfold soundsB
  exact Nat.lt_of_le_of_lt Nat.and_le_left (Nat.or_lt_two_pow h1 (by omega))
def brokenE (m : MachP) (l : List Int) (a : HandP) : Int := if chkM m ≠ 0 then chkM m else if checkSetM l (faultsM m).length ≠ 0 then checkSetM l (faultsM m).length else checkHandM m a
def brokenL (m : MachP) (l : List Int) (a : HandP) : List Int := if brokenE m l a = 0 then listN (soundsB m (pickL m l) a) 6 else []
set_option maxHeartbeats 4000000 in
theorem Broken_ok (hph : Lvl.ph = true) (m : MachP) (l : List Int) (a : HandP) (AB AQ AL AW NA HA OA : Option Addr) (cB cQ cL cW cN cH cO : Nat) (h : AH) (RM : MachR h AB AQ AL AW m) (RN : Row h 1 intC NA l) (RH : HandR h HA OA a) (h0 : m.weights.length < 2 ^ 40) (hl : l.length < 2 ^ 19) (h1 : a.buttons.length < 2 ^ 40) (h2 : a.on.length < 2 ^ 40) :
    FnT Try.prog 16 #[machV AB AQ AL AW cB cQ cL cW m, .slice NA l.length cN, handV HA OA cH cO a] h (fun v h' => ∃ L, v = .tuple #[L, .int .i64 (brokenE m l a)] ∧ SlR h' 1 intC (brokenL m l a) L) := by
  refine call_body Try.func16 rfl Try.ntmps16 rfl ?_
  refine xp_seq ?_
  refine xp_region rfl ?_
  refine op_box (v := .agg #[.int .i64 _, .int .i64 _, .int .i64 _, .int .i64 _, .int .i64 _, .slice _ _ _, .slice _ _ _, .slice _ _ _, .slice _ _ _]) (cs := [_, _, _, _, _, _, _, _, _]) rfl rfl fun b3 hb3 => ?_
  refine wp_norm [_] rfl ?_
  refine op_box (v := .agg #[.slice _ _ _, .slice _ _ _]) (cs := [_, _]) rfl rfl fun b5 hb5 => ?_
  refine wp_norm [_, _] rfl ?_
  refine op_pure (pv_assign (v := .slice _ _ _) rfl) ?_
  refine op_pure (pv_assign (v := .int .i64 _) rfl) ?_
  refine xp_seq ?_
  refine xp_seq ?_
  refine xp_region rfl ?_
  refine op_loadPA 0 (vs := [.int .i64 _, .int .i64 _, .int .i64 _, .int .i64 _, .int .i64 _, .slice _ _ _, .slice _ _ _, .slice _ _ _, .slice _ _ _]) rfl rfl rfl rfl rfl ?_
  refine op_fn (caps := []) (vs := [.agg #[.int .i64 _, .int .i64 _, .int .i64 _, .int .i64 _, .int .i64 _, .slice _ _ _, .slice _ _ _, .slice _ _ _, .slice _ _ _]]) rfl rfl rfl (Check_ok m AB AQ AL AW cB cQ cL cW h (RM.ext (Ext.refl _)) h0) ?_
  rintro _ h3 E3 rfl
  refine op_pure (pv_assign (v := .int .i64 _) rfl) ?_
  refine xp_seq ?_
  refine xp_region rfl ?_
  refine op_pure (pv_move (v := .int .i64 _) rfl) ?_
  refine op_pure (pv_of (v := .bool _) rfl) ?_
  refine xp_cond rfl (fun hc => ?_) (fun hc => ?_)
  · skip
    have hc' : chkM m ≠ 0 := by simpa using hc
    have e : brokenE m l a = chkM m := by rw [brokenE, if_pos hc']
    refine xp_seq ?_
    refine xp_region rfl ?_
    refine op_pure (pv_move (v := .int .i64 _) rfl) ?_
    refine op_pure (pv_assign (v := .slice _ _ _) rfl) ?_
    refine op_pure (pv_assign (v := .int .i64 _) rfl) ?_
    refine xp_ret ?_
    refine res_list (vs := [_, _]) Try.results16 ⟨resV_tmp rfl rfl, resV_tmp rfl rfl, trivial⟩ fun V => ?_
    exact ⟨(Ext.trans E3 (ext_wl V)), .slice none 0 0, by rw [e]; rfl, by rw [brokenL, e, if_neg hc']; exact ⟨none, 0, rfl, row_nil _ _⟩⟩
  · skip
    have hc' : chkM m = 0 := by simpa using hc
    have M := check_ok hc'
    have lv := M.levers
    have pl := M.pl
    have ll := M.ll
    have fl := faults_len m
    have e0 : brokenE m l a = if checkSetM l (faultsM m).length ≠ 0 then checkSetM l (faultsM m).length else checkHandM m a := by rw [brokenE, if_neg (by simp [hc'])]
    refine xp_skip ?_
    refine xp_seq ?_
    refine xp_region rfl ?_
    refine op_loadPA 0 (vs := [.int .i64 _, .int .i64 _, .int .i64 _, .int .i64 _, .int .i64 _, .slice _ _ _, .slice _ _ _, .slice _ _ _, .slice _ _ _]) rfl rfl rfl rfl rfl ?_
    refine op_fn (caps := []) (vs := [.agg #[.int .i64 _, .int .i64 _, .int .i64 _, .int .i64 _, .int .i64 _, .slice _ _ _, .slice _ _ _, .slice _ _ _, .slice _ _ _]]) rfl rfl rfl (faults_ok m (by omega) (by omega) (by omega) AB AQ AL AW cB cQ cL cW h3) ?_
    rintro _ h4 E4 ⟨FA, cF, rfl, RF⟩
    refine op_pure (pv_assign (v := .slice _ _ _) rfl) ?_
    refine xp_seq ?_
    refine xp_seq ?_
    refine xp_region rfl ?_
    refine op_pure (pv_move (v := .slice _ _ _) rfl) ?_
    refine op_pure (pv_move (v := .slice _ _ _) rfl) ?_
    refine op_pure (pv_len rfl rfl) ?_
    refine op_fn (caps := []) (vs := [.slice _ _ _, .int .i64 _]) rfl rfl rfl (checkSet_ok l (faultsM m).length (by omega) NA cN h4 (RN.ext (Ext.trans E3 E4)) (by omega)) ?_
    rintro _ h5 E5 rfl
    refine op_pure (pv_assign (v := .int .i64 _) rfl) ?_
    refine xp_seq ?_
    refine xp_region rfl ?_
    refine op_pure (pv_move (v := .int .i64 _) rfl) ?_
    refine op_pure (pv_of (v := .bool _) rfl) ?_
    refine xp_cond rfl (fun hs => ?_) (fun hs => ?_)
    · skip
      have hs' : checkSetM l (faultsM m).length ≠ 0 := by simpa using hs
      rw [if_pos hs'] at e0
      refine xp_seq ?_
      refine xp_region rfl ?_
      refine op_pure (pv_move (v := .int .i64 _) rfl) ?_
      refine op_pure (pv_assign (v := .slice _ _ _) rfl) ?_
      refine op_pure (pv_assign (v := .int .i64 _) rfl) ?_
      refine xp_ret ?_
      refine res_list (vs := [_, _]) Try.results16 ⟨resV_tmp rfl rfl, resV_tmp rfl rfl, trivial⟩ fun V => ?_
      exact ⟨(Ext.trans (Ext.trans (Ext.trans E3 E4) E5) (ext_wl V)), .slice none 0 0, by rw [e0]; rfl, by rw [brokenL, e0, if_neg hs']; exact ⟨none, 0, rfl, row_nil _ _⟩⟩
    · skip
      have hs' : checkSetM l (faultsM m).length = 0 := by simpa using hs
      rw [if_neg (by simp [hs'])] at e0
      have SO := checkSet_iff.1 hs'
      have hfo := pickL_fok M (fun n hn => SO.mem n hn)
      refine xp_skip ?_
      refine xp_seq ?_
      refine xp_seq ?_
      refine xp_region rfl ?_
      refine op_loadPA 0 (vs := [.int .i64 _, .int .i64 _, .int .i64 _, .int .i64 _, .int .i64 _, .slice _ _ _, .slice _ _ _, .slice _ _ _, .slice _ _ _]) rfl rfl rfl rfl rfl ?_
      refine op_loadPA 1 (vs := [.slice _ _ _, .slice _ _ _]) rfl rfl rfl rfl rfl ?_
      refine op_fn (caps := []) (vs := [.agg #[.int .i64 _, .int .i64 _, .int .i64 _, .int .i64 _, .int .i64 _, .slice _ _ _, .slice _ _ _, .slice _ _ _, .slice _ _ _], .agg #[.slice _ _ _, .slice _ _ _]]) rfl rfl rfl (checkHand_ok m a AB AQ AL AW HA OA cB cQ cL cW cH cO h5 (RM.ext (Ext.trans (Ext.trans E3 E4) E5)) (RH.ext (Ext.trans (Ext.trans E3 E4) E5)) h0 h1 h2) ?_
      rintro _ h6 E6 rfl
      refine op_pure (pv_assign (v := .int .i64 _) rfl) ?_
      refine xp_seq ?_
      refine xp_region rfl ?_
      refine op_pure (pv_move (v := .int .i64 _) rfl) ?_
      refine op_pure (pv_of (v := .bool _) rfl) ?_
      refine xp_cond rfl (fun hd => ?_) (fun hd => ?_)
      · skip
        have hd' : checkHandM m a ≠ 0 := by simpa using hd
        refine xp_seq ?_
        refine xp_region rfl ?_
        refine op_pure (pv_move (v := .int .i64 _) rfl) ?_
        refine op_pure (pv_assign (v := .slice _ _ _) rfl) ?_
        refine op_pure (pv_assign (v := .int .i64 _) rfl) ?_
        refine xp_ret ?_
        refine res_list (vs := [_, _]) Try.results16 ⟨resV_tmp rfl rfl, resV_tmp rfl rfl, trivial⟩ fun V => ?_
        exact ⟨(Ext.trans (Ext.trans (Ext.trans (Ext.trans E3 E4) E5) E6) (ext_wl V)), .slice none 0 0, by rw [e0]; rfl, by rw [brokenL, e0, if_neg hd']; exact ⟨none, 0, rfl, row_nil _ _⟩⟩
      · skip
        have hd' : checkHandM m a = 0 := by simpa using hd
        obtain ⟨_, H⟩ := checkHand_ok0 hd'
        rw [hd'] at e0
        refine xp_skip ?_
        refine xp_seq ?_
        refine xp_dw [] rfl rfl rfl ?_
        refine dw_load (i := 0) rfl (by decide +kernel) ?_
        refine op_loadPA 0 (vs := [.int .i64 _, .int .i64 _, .int .i64 _, .int .i64 _, .int .i64 _, .slice _ _ _, .slice _ _ _, .slice _ _ _, .slice _ _ _]) rfl rfl rfl rfl rfl ?_
        refine dw_pure (i := 1) rfl (by decide +kernel) (pv_move (v := .slice _ _ _) rfl) ?_
        refine dw_pure (i := 2) rfl (by decide +kernel) (pv_move (v := .slice _ _ _) rfl) ?_
        refine dw_load (i := 5) rfl (by decide +kernel) ?_
        refine op_loadPA 1 (vs := [.slice _ _ _, .slice _ _ _]) rfl rfl rfl rfl rfl ?_
        refine dw_eff (i := 3) rfl (by decide +kernel) ?_
        refine op_fn (caps := []) (vs := [.slice _ _ _, .slice _ _ _]) rfl rfl rfl (pick_ok (faultsM m) (by omega) l hl (fun n hn => SO.mem n hn) FA NA cF cN h6 (RF.ext (Ext.trans E5 E6)) (RN.ext (Ext.trans (Ext.trans (Ext.trans E3 E4) E5) E6))) ?_
        rintro _ h7 E7 ⟨PA, cP, rfl, RP⟩
        refine ⟨ext_wlm E7 _, ?_⟩
        refine dw_eff (i := 4) rfl (by decide +kernel) ?_
        refine op_fn (caps := []) (vs := [.agg #[.int .i64 _, .int .i64 _, .int .i64 _, .int .i64 _, .int .i64 _, .slice _ _ _, .slice _ _ _, .slice _ _ _, .slice _ _ _], .slice _ _ _]) rfl rfl rfl (broken_ok m M (pickL m l) hfo (by rw [pickL, List.length_map]; omega) AB AQ AL AW PA cB cQ cL cW cP h7 (RM.ext (Ext.trans (Ext.trans (Ext.trans (Ext.trans E3 E4) E5) E6) E7)) RP) ?_
        rintro _ h8 E8 ⟨z1, z2, z3, z4, rfl, BB⟩
        refine ⟨ext_wlm E8 _, ?_⟩
        refine dw_last (i := 6) rfl (by decide +kernel) (by decide +kernel) ?_
        refine op_fn  (vs := _) rfl rfl rfl (brk_ok hph m M (pickL m l) hfo a H z1 z2 z3 z4 HA OA cH cO h8 BB (RH.ext (Ext.trans (Ext.trans (Ext.trans (Ext.trans (Ext.trans E3 E4) E5) E6) E7) E8))) ?_
        rintro _ h9 E9 rfl
        refine dw_last (i := 7) rfl (by decide +kernel) (by decide +kernel) ?_
        refine op_fn (caps := []) (vs := [.int .i64 _]) rfl rfl rfl (list_ok (soundsB m (pickL m l) a) (soundsB_small M hfo a) h9) ?_
        rintro _ h10 E10 ⟨LA, cL2, rfl, RL⟩
        refine dw_pure (i := 8) rfl (by decide +kernel) (pv_assign (v := .slice _ _ _) rfl) ?_
        refine dw_pure (i := 9) rfl (by decide +kernel) (pv_assign (v := .int .i64 _) rfl) ?_
        refine dw_end rfl ?_
        refine xp_ret ?_
        refine res_list (vs := [_, _]) Try.results16 ⟨resV_tmp rfl rfl, resV_tmp rfl rfl, trivial⟩ fun V => ?_
        exact ⟨(Ext.trans (Ext.trans (Ext.trans (Ext.trans (Ext.trans (Ext.trans (Ext.trans (Ext.trans E3 E4) E5) E6) E7) E8) E9) E10) (ext_wl V)), .slice LA (listN (soundsB m (pickL m l) a) 6).length cL2, by rw [e0]; rfl, by rw [brokenL, e0, if_pos rfl]; exact ⟨LA, cL2, rfl, RL.ext (ext_wl V)⟩⟩
end
end Go.Proofs.Ytlfbcimcehcomaa
/- Rows that levers open, in plain data: a lever that stays shut or open. Conditions: none. -/
namespace Go.Vo
open Go Go.HL Go.Wx Go.Rd Go.Proofs.Ytlfbcimcehcomaa
variable [Lvl]
theorem maskBit {d j : Nat} (hd : d < 2 ^ 64) : (2 ^ 64 - 1 - d).testBit j = (decide (j < 64) && !d.testBit j) := by
  rw [show 2 ^ 64 - 1 - d = 2 ^ 64 - (d + 1) by omega, Nat.testBit_two_pow_sub_succ hd]
theorem withM0_lt {v : Nat} (hv : v < 6) : withM 0 v < 2 ^ 64 := by
  have h : v = 0 ∨ v = 1 ∨ v = 2 ∨ v = 3 ∨ v = 4 ∨ v = 5 := by omega
  rcases h with rfl | rfl | rfl | rfl | rfl | rfl <;> decide
theorem shut_mem {m : MachP} {a : HandP} {v : Nat} (hv : v < 6) (x : Int) : x ∈ listN (soundsB m [.shut v] a) 6 ↔ x ∈ listN (soundsM m a m.travel) 6 ∧ x ≠ v := by
  rw [listN_bits, listN_bits]
  have e : soundsB m [.shut v] a = (soundsM m a m.travel ||| 0) &&& (2 ^ 64 - 1 - withM 0 v) := rfl
  have hb : ∀ i : Nat, i < 6 → ((soundsB m [.shut v] a).testBit i = true ↔ (soundsM m a m.travel).testBit i = true ∧ v ≠ i) := by
    intro i hi
    rw [e, Nat.testBit_and, Nat.or_zero, maskBit (withM0_lt hv), withM_bit, Nat.zero_testBit, Bool.false_or, Bool.and_eq_true, Bool.and_eq_true, decide_eq_true_eq, Bool.not_eq_true', decide_eq_false_iff_not]
    exact ⟨fun h => ⟨h.1, h.2.2⟩, fun h => ⟨h.1, by omega, h.2⟩⟩
  constructor
  · rintro ⟨i, rfl, h1, h2⟩
    have := (hb i h1).1 h2
    exact ⟨⟨i, rfl, h1, this.1⟩, by omega⟩
  · rintro ⟨⟨i, rfl, h1, h2⟩, h3⟩
    exact ⟨i, rfl, h1, (hb i h1).2 ⟨h2, by omega⟩⟩
theorem opn_mem {m : MachP} {a : HandP} {v : Nat} (hv : v < 6) (x : Int) : x ∈ listN (soundsB m [.opn v] a) 6 ↔ x ∈ listN (soundsM m a m.travel) 6 ∨ x = v := by
  rw [listN_bits, listN_bits]
  have e : soundsB m [.opn v] a = (soundsM m a m.travel ||| withM 0 v) &&& (2 ^ 64 - 1 - 0) := rfl
  have hb : ∀ i : Nat, i < 6 → ((soundsB m [.opn v] a).testBit i = true ↔ (soundsM m a m.travel).testBit i = true ∨ v = i) := by
    intro i hi
    rw [e, Nat.testBit_and, Nat.testBit_or, maskBit (by decide), withM_bit, Nat.zero_testBit, Bool.false_or, Bool.and_eq_true, Bool.or_eq_true, decide_eq_true_eq]
    refine ⟨fun h => h.1, fun h => ⟨h, ?_⟩⟩
    rw [decide_eq_true (show i < 64 by omega)]
    rfl
  constructor
  · rintro ⟨i, rfl, h1, h2⟩
    rcases (hb i h1).1 h2 with h | h
    · exact .inl ⟨i, rfl, h1, h⟩
    · exact .inr (by rw [h])
  · rintro (⟨i, rfl, h1, h2⟩ | h)
    · exact ⟨i, rfl, h1, (hb i h1).2 (.inl h2)⟩
    · exact ⟨v, h, hv, (hb v hv).2 (.inr rfl)⟩
theorem openM_asc {l : List Int} (h : l.Pairwise (· < ·)) (n : Int) : (openM l n).Pairwise (· < ·) := h.sublist List.filter_sublist
theorem mem_openM {l : List Int} {n x : Int} : x ∈ openM l n ↔ x ∈ l ∧ 0 ≤ x ∧ x < n := by
  unfold openM
  rw [List.mem_filter, Bool.and_eq_true, decide_eq_true_eq, decide_eq_true_eq]
/-- A row less: the first one, or the last one. -/
theorem less_first {r : List Int} {now : List Int} {v : Int} (hr : (v :: r).Pairwise (· < ·)) (hn : now.Pairwise (· < ·)) (hm : ∀ x, x ∈ now ↔ x ∈ v :: r ∧ x ≠ v) : now = r := by
  rw [List.pairwise_cons] at hr
  refine asc_ext hn hr.2 fun x => ?_
  rw [hm, List.mem_cons]
  constructor
  · rintro ⟨h | h, h2⟩
    · exact absurd h h2
    · exact h
  · intro h
    exact ⟨.inr h, by have := hr.1 x h; omega⟩
theorem less_last {r : List Int} {now : List Int} {v : Int} (hr : (r ++ [v]).Pairwise (· < ·)) (hn : now.Pairwise (· < ·)) (hm : ∀ x, x ∈ now ↔ x ∈ r ++ [v] ∧ x ≠ v) : now = r := by
  rw [List.pairwise_append] at hr
  refine asc_ext hn hr.1 fun x => ?_
  rw [hm, List.mem_append, List.mem_singleton]
  constructor
  · rintro ⟨h | h, h2⟩
    · exact h
    · exact absurd h h2
  · intro h
    exact ⟨.inl h, by have := hr.2.2 x h v (List.mem_singleton.2 rfl); omega⟩
/-- A row more: ahead, or behind. -/
theorem more_first {r : List Int} {now : List Int} {v : Int} (hr : r.Pairwise (· < ·)) (hv : ∀ x ∈ r, v < x) (hn : now.Pairwise (· < ·)) (hm : ∀ x, x ∈ now ↔ x ∈ r ∨ x = v) : now = v :: r := by
  refine asc_ext hn (List.pairwise_cons.2 ⟨hv, hr⟩) fun x => ?_
  rw [hm, List.mem_cons]
  exact Or.comm
theorem more_last {r : List Int} {now : List Int} {v : Int} (hr : r.Pairwise (· < ·)) (hv : ∀ x ∈ r, x < v) (hn : now.Pairwise (· < ·)) (hm : ∀ x, x ∈ now ↔ x ∈ r ∨ x = v) : now = r ++ [v] := by
  refine asc_ext hn (List.pairwise_append.2 ⟨hr, List.pairwise_singleton _ _, fun x hx y hy => by rw [List.mem_singleton.1 hy]; exact hv x hx⟩) fun x => ?_
  rw [hm, List.mem_append, List.mem_singleton]
/-- Rows in order make a register. -/
theorem reg_of {r : List Int} {n : Nat} (hr : r.Pairwise (· < ·)) (hb : ∀ x ∈ r, 0 ≤ x ∧ x < n) : RegB r n := by
  refine ⟨hb, fun i h0 h1 => ?_⟩
  rw [List.getD_eq_getElem?_getD, List.getD_eq_getElem?_getD, List.getElem?_eq_getElem h1, List.getElem?_eq_getElem (show i - 1 < r.length by omega)]
  exact (List.pairwise_iff_getElem.1 hr) (i - 1) i (by omega) h1 (by omega)
/-- The fault of a lever, by its number. -/
theorem pick_shut {m : MachP} {f : Nat} (hf : f < m.levers.toNat) : pickL m [(f : Int)] = [.shut f] := by
  have h : (faultsM m)[f]? = some (.shut f) := by
    unfold faultsM fs3 fs2 fs1
    rw [List.getElem?_append_left (by simp [fsN_len]; omega), List.getElem?_append_left (by simp [fsN_len]; omega), List.getElem?_append_left (by simp [fsN_len]; omega)]
    simp [fsN, hf]
  show [(faultsM m).getD ((f : Int)).toNat (.shut 0)] = _
  rw [show ((f : Int)).toNat = f from rfl, List.getD_eq_getElem?_getD, h]
  rfl
theorem pick_opn {m : MachP} {f v : Nat} (hv : v < m.levers.toNat) (hf : f = m.levers.toNat + v) : pickL m [(f : Int)] = [.opn v] := by
  have h : (faultsM m)[f]? = some (.opn v) := by
    unfold faultsM fs3 fs2 fs1
    rw [List.getElem?_append_left (by simp [fsN_len]; omega), List.getElem?_append_left (by simp [fsN_len]; omega), List.getElem?_append_right (by simp [fsN_len]; omega)]
    rw [fsN_len, show f - m.levers.toNat = v by omega]
    simp [fsN, hv]
  show [(faultsM m).getD ((f : Int)).toNat (.shut 0)] = _
  rw [show ((f : Int)).toNat = f from rfl, List.getD_eq_getElem?_getD, h]
  rfl
theorem asc_len : ∀ (l : List Int) (lo hi : Int), l.Pairwise (· < ·) → (∀ x ∈ l, lo ≤ x ∧ x < hi) → l.length ≤ (hi - lo).toNat
  | [], _, _, _, _ => Nat.zero_le _
  | v :: l, lo, hi, hp, hb => by
    rw [List.pairwise_cons] at hp
    have h1 := hb v (List.mem_cons_self ..)
    have h2 := asc_len l (v + 1) hi hp.2 fun x hx => ⟨by have := hp.1 x hx; omega, (hb x (List.mem_cons_of_mem _ hx)).2⟩
    rw [List.length_cons]
    omega
/-- The numbers of the registers' events, behind those of the buttons. -/
def onS (nb k : Nat) : List Int := (List.range k).map fun i : Nat => ((nb + i : Nat) : Int)
theorem onS_succ (nb k : Nat) : onS nb (k + 1) = onS nb k ++ [((nb + k : Nat) : Int)] := by unfold onS; rw [List.range_succ, List.map_append]; rfl
theorem mem_onS {nb k : Nat} {x : Int} : x ∈ onS nb k ↔ ∃ i : Nat, i < k ∧ x = ((nb + i : Nat) : Int) := by
  unfold onS
  rw [List.mem_map]
  constructor
  · rintro ⟨i, h, rfl⟩; exact ⟨i, List.mem_range.1 h, rfl⟩
  · rintro ⟨i, h, rfl⟩; exact ⟨i, List.mem_range.2 h, rfl⟩
end Go.Vo
/- Walks of package bellow: the checks, sums, corners. Conditions: as each theorem states. -/
namespace Go.Proofs.Ytlfbcimcehcomaa
open Go Go.HL Go.Proofs Go.Wx Go.Rd Go.Bw
section
variable [Lvl]
set_option maxRecDepth 100000
end
end Go.Proofs.Ytlfbcimcehcomaa
/- Walks of package bellow: the goroutine of truths. Conditions: as each theorem states. -/
namespace Go.Proofs.Ytlfbcimcehcomaa
open Go Go.HL Go.Proofs Go.Wx Go.Rd Go.Bw Go.Conc
set_option maxRecDepth 100000
section
variable [Lvl]
/-- The blocks that the closure next reads. -/
structure NextK (h : AH) (b : BelP) (A TA : Option Addr) (cA tA : Nat) (c bB bN bC : Nat) : Prop where
  r : Row h 2 rgC A b.corners
  c1 : h bB = some (.cells (belC A TA cA tA b).toArray 62 (0, 0))
  c2 : ∃ t, h bN = some (.cells #[.func (.func 108) #[] #[.pointer (some ⟨bB, 0, none⟩), .pointer (some ⟨bN, 0, none⟩), .pointer (some ⟨bC, 0, none⟩)]] t (0, 0))
  c3 : ∃ t f, h bC = some (.cells #[.chan (some c)] t f)
theorem NextK.ext {h h' : AH} {b : BelP} {A TA : Option Addr} {cA tA : Nat} {c bB bN bC : Nat} (B : NextK h b A TA cA tA c bB bN bC) (E : Ext h h') : NextK h' b A TA cA tA c bB bN bC :=
  ⟨B.r.ext E, E _ _ B.c1, B.c2.imp fun _ e => E _ _ e, B.c3.imp fun _ e => e.imp fun _ e => E _ _ e⟩
end
end Go.Proofs.Ytlfbcimcehcomaa
/- Walks of package bellow: the goroutine's body; known. Conditions: as each theorem states. -/
namespace Go.Proofs.Ytlfbcimcehcomaa
open Go Go.HL Go.Proofs Go.Wx Go.Rd Go.Bw Go.Conc
set_option maxRecDepth 100000
end Go.Proofs.Ytlfbcimcehcomaa
/- Walks of package bellow: pieces, ways, works, sets of airs. Conditions: as each theorem states. -/
namespace Go.Proofs.Ytlfbcimcehcomaa
open Go Go.HL Go.Proofs Go.Wx Go.Rd Go.Bw
section
variable [Lvl]
set_option maxRecDepth 100000
end
end Go.Proofs.Ytlfbcimcehcomaa
/- Walks of package bellow: how it works; sets of airs. Conditions: as each theorem states. -/
namespace Go.Proofs.Ytlfbcimcehcomaa
open Go Go.HL Go.Proofs Go.Wx Go.Rd Go.Bw
section
variable [Lvl]
set_option maxRecDepth 100000
end
end Go.Proofs.Ytlfbcimcehcomaa
/- Walks of package bellow: the airs of a piece; whether it must be played. Conditions: as each theorem states. -/
namespace Go.Proofs.Ytlfbcimcehcomaa
open Go Go.HL Go.Proofs Go.Wx Go.Rd Go.Bw
section
variable [Lvl]
set_option maxRecDepth 100000
end
end Go.Proofs.Ytlfbcimcehcomaa
/- Walks of package bellow: whether a piece must be playable. Conditions: as each theorem states. -/
namespace Go.Proofs.Ytlfbcimcehcomaa
open Go Go.HL Go.Proofs Go.Wx Go.Rd Go.Bw
section
variable [Lvl]
set_option maxRecDepth 100000
end
end Go.Proofs.Ytlfbcimcehcomaa
/- Walks of package bellow: whether a piece can be played. Conditions: as each theorem states. -/
namespace Go.Bw
open Go Go.HL
/-- The words of a set of one air, or of none. -/
def wO : Option Nat → Nat → Nat
  | none, _ => 0
  | some m, k => wordA m k
def setO (o : Option Nat) : List Value := [.int .u64 (wO o 0 : Nat), .int .u64 (wO o 1 : Nat), .int .u64 (wO o 2 : Nat), .int .u64 (wO o 3 : Nat)]
end Go.Bw
namespace Go.Proofs.Ytlfbcimcehcomaa
open Go Go.HL Go.Proofs Go.Wx Go.Rd Go.Bw
section
variable [Lvl]
set_option maxRecDepth 100000
end
end Go.Proofs.Ytlfbcimcehcomaa
/- Walks of package bellow: what is played, for a bellows without corners. Conditions: as each theorem states. -/
namespace Go.Bw
open Go Go.HL
end Go.Bw
namespace Go.Proofs.Ytlfbcimcehcomaa
open Go Go.HL Go.Proofs Go.Wx Go.Rd Go.Bw
section
variable [Lvl]
set_option maxRecDepth 100000
end
end Go.Proofs.Ytlfbcimcehcomaa
/- Walks of package bellow: what must and may be played. Conditions: as each theorem states. -/
namespace Go.Proofs.Ytlfbcimcehcomaa
open Go Go.HL Go.Proofs Go.Wx Go.Rd Go.Bw
section
variable [Lvl]
set_option maxRecDepth 100000
end
end Go.Proofs.Ytlfbcimcehcomaa
/- Walks of package bellow: Plays, Levels of a bellows without corners. Conditions: as each theorem states. -/
namespace Go.Proofs.Ytlfbcimcehcomaa
open Go Go.HL Go.Proofs Go.Wx Go.Rd Go.Bw
section
variable [Lvl]
set_option maxRecDepth 100000
end
end Go.Proofs.Ytlfbcimcehcomaa
/- Walks: what sounds with one fault; what explains. Conditions: as each theorem states. -/
namespace Go.Proofs.Ytlfbcimcehcomaa
open Go Go.HL Go.Proofs Go.Wx Go.Rd
section
variable [Lvl]
set_option maxRecDepth 100000
end
end Go.Proofs.Ytlfbcimcehcomaa
/- Walks: whichever fault there truly is. Conditions: as each theorem states. -/
namespace Go.Proofs.Ytlfbcimcehcomaa
open Go Go.HL Go.Proofs Go.Wx Go.Rd
section
variable [Lvl]
set_option maxRecDepth 100000
end
end Go.Proofs.Ytlfbcimcehcomaa
/- Plain: how far rods turn, as the reference counts it: as many rounds as there are rods. Conditions: none. -/
namespace Go.Rd
open Go Go.HL Go.Wx
variable [Lvl]

def pressR (bs : List Int) (depth : Int) (hb : List Int) (t : List Int) : List Int := hb.foldl (fun t b => t.set (bs.getD b.toNat 0).toNat depth) t
def sweepN (m : MachP) (a : HandP) (t : List Int) : Nat → List Int
  | 0 => t
  | k + 1 => linkM a.on m.links (sweepN m a t k)
def startR (m : MachP) (a : HandP) (depth : Int) : List Int := pressR m.buttons depth a.buttons (List.replicate m.rods.toNat 0)
theorem pressR_take {bs : List Int} {depth : Int} {hb t : List Int} {k : Nat} (h : k < hb.length) : pressR bs depth (hb.take (k + 1)) t = (pressR bs depth (hb.take k) t).set (bs.getD hb[k].toNat 0).toNat depth := by
  unfold pressR
  rw [List.take_add_one, List.getElem?_eq_getElem h, Option.toList_some, List.foldl_append]
  rfl
theorem pressR_len (bs : List Int) (depth : Int) : ∀ (hb t : List Int), (pressR bs depth hb t).length = t.length
  | [], _ => rfl
  | x :: hb, t => by
    show (pressR bs depth hb (t.set _ depth)).length = _
    rw [pressR_len bs depth hb, List.length_set]
theorem linkR_len (on : List Int) (ls : List LinkP) (t : List Int) : (linkM on ls t).length = t.length := (foldl_inc (link_inc on) ls t).1.symm
theorem sweep_len (m : MachP) (a : HandP) (t : List Int) : ∀ k, (sweepN m a t k).length = t.length
  | 0 => rfl
  | k + 1 => by rw [sweepN, linkR_len, sweep_len m a t k]
theorem start_len (m : MachP) (a : HandP) (depth : Int) : (startR m a depth).length = m.rods.toNat := by rw [startR, pressR_len, List.length_replicate]
theorem set_getD (t : List Int) (i : Nat) (v : Int) (j : Nat) : (t.set i v).getD j 0 = if j = i ∧ i < t.length then v else t.getD j 0 := by
  simp only [List.getD_eq_getElem?_getD, List.getElem?_set]
  by_cases h : i = j
  · subst h
    by_cases hl : i < t.length
    · simp [hl]
    · simp [hl]
  · have h' : ¬ j = i := fun e => h e.symm
    simp [h, h']
theorem repl_getD (n j : Nat) : (List.replicate n (0 : Int)).getD j 0 = 0 := by
  rw [List.getD_eq_getElem?_getD, List.getElem?_replicate]
  split <;> rfl
/-- Between nothing and how far the rods turn. -/
def In0 (f : Int → Int) (t : List Int) : Prop := ∀ j : Nat, 0 ≤ t.getD j 0 ∧ t.getD j 0 ≤ f j
theorem press_in {m : MachP} {a : HandP} {depth : Int} {f : Int → Int} (F : Fit m a) (hd : 0 ≤ depth) (c : Clo m a depth f) : ∀ (hb t : List Int), (∀ b ∈ hb, b ∈ a.buttons) → In0 f t → In0 f (pressR m.buttons depth hb t)
  | [], _, _, h => h
  | x :: hb, t, hs, h => by
    refine press_in F hd c hb _ (fun b h => hs b (List.mem_cons_of_mem _ h)) fun j => ?_
    rw [set_getD]
    split
    · rename_i e
      have hx := hs x (List.mem_cons_self ..)
      have h1 := c.press x hx
      have h2 := getD_mem_ge F.btn (i := x.toNat) (by have := F.hb x hx; omega)
      rw [e.1, Int.toNat_of_nonneg h2.1]
      exact ⟨hd, h1⟩
    · exact h j
theorem links_in {m : MachP} {a : HandP} {depth : Int} {f : Int → Int} (F : Fit m a) (c : Clo m a depth f) : ∀ (ls : List LinkP) (t : List Int), (∀ l ∈ ls, l ∈ m.links) → In0 f t → In0 f (linkM a.on ls t)
  | [], _, _, h => h
  | x :: ls, t, hs, h => by
    refine links_in F c ls _ (fun b h => hs b (List.mem_cons_of_mem _ h)) ?_
    dsimp only
    split
    · rename_i ha
      have hx := hs x (List.mem_cons_self ..)
      have h1 := c.link x hx ha
      obtain ⟨⟨f0, _⟩, ⟨t0, _⟩, _⟩ := F.link x hx
      intro j
      rw [rise_getD]
      split
      · rename_i e
        have h3 := (h x.frm.toNat).2
        have h4 := h x.to.toNat
        rw [Int.toNat_of_nonneg f0] at h3
        rw [e.1]
        rw [Int.toNat_of_nonneg t0] at h4 ⊢
        exact ⟨Int.le_trans h4.1 (Int.le_max_left _ _), Int.max_le.2 ⟨h4.2, by omega⟩⟩
      · exact h j
    · exact h
theorem start_in {m : MachP} {a : HandP} {depth : Int} {f : Int → Int} (F : Fit m a) (hd : 0 ≤ depth) (c : Clo m a depth f) : In0 f (startR m a depth) :=
  press_in F hd c _ _ (fun _ h => h) fun j => by rw [repl_getD]; exact ⟨Int.le_refl _, c.zero j (by omega)⟩
theorem sweep_in {m : MachP} {a : HandP} {depth : Int} {f : Int → Int} {t : List Int} (F : Fit m a) (c : Clo m a depth f) (h : In0 f t) : ∀ k, In0 f (sweepN m a t k)
  | 0 => h
  | k + 1 => links_in F c _ _ (fun _ h => h) (sweep_in F c h k)
theorem press_reach {bs : List Int} {depth : Int} {b : Int} : ∀ (hb t : List Int), b ∈ hb → (bs.getD b.toNat 0).toNat < t.length → (pressR bs depth hb t).getD (bs.getD b.toNat 0).toNat 0 = depth := by
  have keep : ∀ (hb t : List Int) (r : Nat), r < t.length → t.getD r 0 = depth → (pressR bs depth hb t).getD r 0 = depth := by
    intro hb
    induction hb with
    | nil => intro t r _ h; exact h
    | cons x hb ih =>
      intro t r hr h
      refine ih _ r (by rw [List.length_set]; exact hr) ?_
      rw [set_getD]
      split
      · rfl
      · exact h
  intro hb
  induction hb with
  | nil => intro t h; exact absurd h List.not_mem_nil
  | cons x hb ih =>
    intro t h hl
    rcases List.mem_cons.1 h with rfl | h
    · refine keep hb _ _ (by rw [List.length_set]; exact hl) ?_
      rw [set_getD, if_pos ⟨rfl, hl⟩]
    · exact ih _ h (by rw [List.length_set]; exact hl)
theorem link_reach {on : List Int} {l : LinkP} (ha : active on l = true) : ∀ (ls : List LinkP) (t : List Int), l ∈ ls → l.to.toNat < t.length → t.getD l.frm.toNat 0 - l.lag ≤ (linkM on ls t).getD l.to.toNat 0
  | [], _, h, _ => absurd h List.not_mem_nil
  | x :: ls, t, h, hl => by
    have i1 := link_inc on t x
    rcases List.mem_cons.1 h with rfl | h
    · have i2 := (foldl_inc (link_inc on) ls (if active on l then rise t l.to.toNat (t.getD l.frm.toNat 0 - l.lag) else t)).2 l.to.toNat
      refine Int.le_trans ?_ i2
      rw [if_pos ha, rise_getD, if_pos ⟨rfl, hl⟩]
      exact Int.le_max_right _ _
    · refine Int.le_trans ?_ (link_reach ha ls (if active on x then rise t x.to.toNat (t.getD x.frm.toNat 0 - x.lag) else t) h (by rw [← i1.1]; exact hl))
      have := i1.2 l.frm.toNat
      omega
theorem count_le {α : Type} {p q : α → Bool} : ∀ {l : List α}, (∀ x ∈ l, p x = true → q x = true) → l.countP p ≤ l.countP q
  | [], _ => Nat.le_refl _
  | x :: l, h => by
    have ih := count_le (l := l) fun y hy => h y (List.mem_cons_of_mem _ hy)
    have hx := h x (List.mem_cons_self ..)
    rw [List.countP_cons, List.countP_cons]
    by_cases e : p x = true
    · rw [if_pos e, if_pos (hx e)]; omega
    · rw [if_neg e]; omega
theorem count_lt {α : Type} {p q : α → Bool} {z : α} (hp : p z = false) (hq : q z = true) : ∀ {l : List α}, (∀ x ∈ l, p x = true → q x = true) → z ∈ l → l.countP p < l.countP q
  | x :: l, h, hz => by
    have hl := fun y hy => h y (List.mem_cons_of_mem _ hy)
    rw [List.countP_cons, List.countP_cons]
    rcases List.mem_cons.1 hz with rfl | hz
    · have := count_le hl
      rw [if_neg (by rw [hp]; decide), if_pos hq]
      omega
    · have ih := count_lt hp hq hl hz
      have hx := h x (List.mem_cons_self ..)
      by_cases e : p x = true
      · rw [if_pos e, if_pos (hx e)]; omega
      · rw [if_neg e]; omega
theorem most_val {m : MachP} {a : HandP} {r : Int} {t : Int → Int} : ∀ {k : Nat}, k ≤ m.links.length → mostN m a r t k = downN m a r a.buttons.length ∨ ∃ (i : Nat) (h : i < m.links.length), m.links[i].to = r ∧ active a.on m.links[i] = true ∧ mostN m a r t k = t m.links[i].frm - m.links[i].lag
  | 0, _ => .inl rfl
  | k + 1, hk => by
    have ih := most_val (m := m) (a := a) (r := r) (t := t) (k := k) (by omega)
    unfold mostN
    rw [List.getElem?_eq_getElem (by omega : k < m.links.length)]
    simp only
    split
    · rename_i e
      rcases Int.le_total (mostN m a r t k) (t m.links[k].frm - m.links[k].lag) with h | h
      · rw [Int.max_eq_right h]
        exact .inr ⟨k, by omega, e.1, e.2, rfl⟩
      · rw [Int.max_eq_left h]
        exact ih
    · exact ih
/-- How many rods turn further. -/
def rankF (m : MachP) (f : Int → Int) (r : Int) : Nat := (List.range m.rods.toNat).countP fun j : Nat => decide (f r < f (j : Int))
theorem sweep_ge {m : MachP} {a : HandP} (M : MOK m) (F : Fit m a) : ∀ (k : Nat) (r : Int), 0 ≤ r → r < m.rods → rankF m (turnF m a m.travel) r ≤ k → turnF m a m.travel r ≤ (sweepN m a (startR m a m.travel) k).getD r.toNat 0
  | k, r, h0, h1, hk => by
    have tr := M.travel
    have td : 0 ≤ m.travel := by omega
    have hT := turn_most F td h0
    have mono : ∀ k, (startR m a m.travel).getD r.toNat 0 ≤ (sweepN m a (startR m a m.travel) k).getD r.toNat 0 := by
      intro k
      induction k with
      | zero => exact Int.le_refl _
      | succ k ih => exact Int.le_trans ih ((foldl_inc (link_inc a.on) m.links (sweepN m a (startR m a m.travel) k)).2 r.toNat)
    rcases most_val (m := m) (a := a) (r := r) (t := turnF m a m.travel) (Nat.le_refl _) with e | ⟨i, hi, e1, e2, e3⟩
    · rcases down_val (m := m) (a := a) (r := r) (Nat.le_refl _) with ⟨h, _⟩ | ⟨h, i, hi, _, e'⟩
      · rw [hT, e, h]
        exact ((sweep_in F (turned_clo F td) (start_in F td (turned_clo F td)) k) r.toNat).1
      · refine Int.le_trans ?_ (mono k)
        have hp := press_reach (bs := m.buttons) (depth := m.travel) a.buttons (List.replicate m.rods.toNat 0) (List.getElem_mem hi) (by rw [e', List.length_replicate]; omega)
        rw [e'] at hp
        rw [hT, e, h]
        exact Int.le_of_eq hp.symm
    · obtain ⟨⟨f0, f1⟩, ⟨t0, t1⟩, ne, _, lg⟩ := M.link _ (List.getElem_mem hi)
      have hlt : turnF m a m.travel r < turnF m a m.travel m.links[i].frm := by omega
      have hrk : rankF m (turnF m a m.travel) m.links[i].frm < rankF m (turnF m a m.travel) r := by
        refine count_lt (z := m.links[i].frm.toNat) ?_ ?_ (fun x _ h => ?_) (List.mem_range.2 (by omega))
        · rw [Int.toNat_of_nonneg f0]; exact decide_eq_false (Int.lt_irrefl _)
        · rw [Int.toNat_of_nonneg f0]; exact decide_eq_true hlt
        · have := of_decide_eq_true h
          exact decide_eq_true (by omega)
      cases k with
      | zero => omega
      | succ k =>
        have ih := sweep_ge M F k m.links[i].frm f0 f1 (by omega)
        have hl := link_reach e2 m.links (sweepN m a (startR m a m.travel) k) (List.getElem_mem hi) (by rw [sweep_len, start_len]; omega)
        rw [e1] at hl
        show _ ≤ (linkM a.on m.links (sweepN m a (startR m a m.travel) k)).getD r.toNat 0
        omega
def turnsR (m : MachP) (a : HandP) (depth : Int) : List Int := sweepN m a (startR m a depth) m.rods.toNat
theorem turnsR_len (m : MachP) (a : HandP) (depth : Int) : (turnsR m a depth).length = m.rods.toNat := by rw [turnsR, sweep_len, start_len]
theorem turnsR_getD {m : MachP} {a : HandP} (M : MOK m) (F : Fit m a) {r : Int} (h0 : 0 ≤ r) (h1 : r < m.rods) : (turnsR m a m.travel).getD r.toNat 0 = turnF m a m.travel r := by
  have tr := M.travel
  have td : 0 ≤ m.travel := by omega
  have u := (sweep_in F (turned_clo F td) (start_in F td (turned_clo F td)) m.rods.toNat) r.toNat
  rw [Int.toNat_of_nonneg h0] at u
  refine Int.le_antisymm u.2 (sweep_ge M F m.rods.toNat r h0 h1 ?_)
  have := List.countP_le_length (p := fun j : Nat => decide (turnF m a m.travel r < turnF m a m.travel (j : Int))) (l := List.range m.rods.toNat)
  rw [List.length_range] at this
  exact this
theorem pinsR {t t' : List Int} : ∀ (ps : List PinP) (l : List Int), (∀ p ∈ ps, t.getD p.rod.toNat 0 = t'.getD p.rod.toNat 0) → ps.foldl (pinS t) l = ps.foldl (pinS t') l
  | [], _, _ => rfl
  | p :: ps, l, h => by
    rw [List.foldl_cons, List.foldl_cons, show pinS t l p = pinS t' l p by unfold pinS; rw [h p (List.mem_cons_self ..)]]
    exact pinsR ps _ fun q hq => h q (List.mem_cons_of_mem _ hq)
theorem liftsR {m : MachP} {a : HandP} (M : MOK m) (F : Fit m a) : liftedM m (turnsR m a m.travel) = liftedM m (turnedM m a m.travel) :=
  pinsR m.pins _ fun p hp => turnsR_getD M F (M.pin p hp).1.1 (M.pin p hp).1.2
theorem turnsR_bd {m : MachP} {a : HandP} {d : Int} (F : Fit m a) (hd : 0 ≤ d) (k : Nat) : Bd d (sweepN m a (startR m a d) k) := fun j => by
  have h := (sweep_in F (turned_clo F hd) (start_in F hd (turned_clo F hd)) k) j
  exact ⟨h.1, Int.le_trans h.2 (turnF_bd F hd j).2⟩
end Go.Rd
/- Walks of the reference: the checks of a machine that is valid, and of a hand. Conditions: as each theorem states. -/
namespace Go.Proofs.Ytlfbcimcehcomaa
open Go Go.HL Go.Proofs Go.Wx Go.Rd
section
variable [Lvl]
set_option maxRecDepth 100000
theorem among_ok (n lo hi : Int) (h : AH) : FnT Try.prog 103 #[.int .i64 n, .int .i64 lo, .int .i64 hi] h (fun v _ => v = .bool (inM n lo hi)) := by
  refine call_body Try.func103 rfl Try.ntmps103 rfl ?_
  refine xp_seq ?_
  refine xp_region rfl ?_
  refine op_pure (pv_assign (v := .bool _) rfl) ?_
  refine xp_seq ?_
  refine xp_region rfl ?_
  refine op_pure (pv_move (v := .int .i64 _) rfl) ?_
  refine op_pure (pv_move (v := .int .i64 _) rfl) ?_
  refine op_pure (pv_of (v := .bool _) rfl) ?_
  refine op_pure (pv_move (v := .bool _) rfl) ?_
  refine guard_case rfl (fun hg1 => ?_) (fun hg1 => ?_)
  · replace hg1 : _ = true := hg1
    refine op_pure (pv_move (v := .int .i64 _) rfl) ?_
    refine guard_yes rfl hg1 ?_
    refine op_pure (pv_move (v := .int .i64 _) rfl) ?_
    refine guard_yes rfl hg1 ?_
    refine op_pure (pv_of (v := .bool _) rfl) ?_
    refine op_pure (pv_pickT rfl hg1 (v := .bool _) rfl) ?_
    refine op_pure (pv_assign (v := .bool _) rfl) ?_
    refine xp_ret ?_
    refine res_list (vs := [_]) Try.results103 ⟨resV_tmp rfl rfl, trivial⟩ fun V => ?_
    exact ⟨(ext_wl V), boolE (by simp_all [inM] <;> omega)⟩
  · replace hg1 : _ = false := hg1
    refine guard_no rfl hg1 ?_
    refine guard_no rfl hg1 ?_
    refine op_pure (pv_pickF rfl hg1 (v := .bool _) rfl) ?_
    refine op_pure (pv_assign (v := .bool _) rfl) ?_
    refine xp_ret ?_
    refine res_list (vs := [_]) Try.results103 ⟨resV_tmp rfl rfl, trivial⟩ fun V => ?_
    exact ⟨(ext_wl V), boolE (by simp_all [inM] <;> omega)⟩
theorem among_yes (n lo hi : Int) (hn : lo ≤ n ∧ n ≤ hi) (h : AH) : FnT Try.prog 103 #[.int .i64 n, .int .i64 lo, .int .i64 hi] h (fun v _ => v = .bool true) :=
  (among_ok n lo hi h).mono (fun v _ e => ⟨e.1, e.2.trans (boolE (inM_iff.2 hn))⟩) fun _ _ e => e
theorem checkSetR_ok (l : List Int) (below : Int) (hb : -100 ≤ below ∧ below ≤ 2 ^ 40) (A : Option Addr) (c : Nat) (h : AH) (R : Row h 1 intC A l) (hl : l.length < 2 ^ 40) :
    FnT Try.prog 105 #[.slice A l.length c, .int .i64 below] h (fun v _ => v = .int .i64 (checkSetM l below)) := by
  refine call_body Try.func105 rfl Try.ntmps105 rfl ?_
  refine xp_seq ?_
  refine xp_region rfl ?_
  refine op_pure (pv_assign (v := .int .i64 _) rfl) ?_
  refine xp_seq ?_
  refine xp_seq ?_
  refine xp_region rfl ?_
  refine op_pure (pv_assign (v := .int .i64 _) rfl) ?_
  refine xp_block ?_
  refine xp_loopB [4, 5, 6, 7, 8, 9, 10, 11, 12, 13, 14, 15, 16, 17, 18, 19, 20, 21, 22, 23, 24, 25, 26, 27, 28, 29, 30, 31, 32, 33] 0 (α := Nat) (fun k => [(5, .int .i64 k)]) (fun k => _) (fun k h_k => k ≤ l.length ∧ firstErr (setAt below l) ((List.range l.length).take k) = 0) (fun k => l.length - k) (0) ⟨rfl, trivial⟩ (rfl) (⟨Nat.zero_le _, rfl⟩) ?_
  rintro k T1 h_k E_k J_k
  refine goes_norm [] rfl ?_
  obtain ⟨K1, K2⟩ := J_k
  refine xp_seq ?_
  refine xp_seq ?_
  refine xp_region rfl ?_
  refine op_pure (pv_move (v := .int .i64 _) rfl) ?_
  refine op_pure (pv_move (v := .slice _ _ _) rfl) ?_
  refine op_pure (pv_len rfl rfl) ?_
  refine op_pure (pv_of (v := .bool _) rfl) ?_
  refine xp_cond rfl (fun hk => ?_) (fun hk => ?_)
  · skip
    have hkl : k < l.length := ltI hk
    have hkr : k < (List.range l.length).length := by simpa using hkl
    have hre : (List.range l.length)[k] = k := by simp
    obtain ⟨g, off, hA, hc⟩ := (R.ext E_k).at (by omega) hkl
    refine xp_skip ?_
    refine xp_seq ?_
    refine xp_block ?_
    refine xp_seq ?_
    refine xp_seq ?_
    refine xp_region rfl ?_
    refine op_pure (pv_move (v := .slice _ _ _) rfl) ?_
    refine op_pure (pv_move (v := .int .i64 _) rfl) ?_
    refine op_pure (pv_indexE rfl hA rfl rfl rfl (by omega) (by omega)) ?_
    refine op_load (v := .int .i64 _) rfl rfl ((hc) 0 _ rfl) ?_
    refine op_pure (pv_move (v := .int .i64 _) rfl) ?_
    refine op_pure (pv_arith rfl (by omega)) ?_
    refine op_fn (caps := []) (vs := [.int .i64 _, .int .i64 _, .int .i64 _]) rfl rfl rfl (among_ok _ _ _ h_k) ?_
    rintro _ h1 E1 rfl
    refine op_pure (pv_of (v := .bool _) rfl) ?_
    refine xp_cond rfl (fun hw => ?_) (fun hw => ?_)
    · skip
      refine xp_seq ?_
      refine xp_region rfl ?_
      refine op_pure (pv_assign (v := .int .i64 _) rfl) ?_
      refine xp_ret ?_
      refine res_list (vs := [_]) Try.results105 ⟨resV_tmp rfl rfl, trivial⟩ fun V => ?_
      refine ⟨(Ext.trans (Ext.trans E_k E1) (ext_wl V)), intE ?_⟩
      rw [checkSetM, firstErr_stop hkr K2 (by rw [hre, setAt, getD_get hkl, if_pos hw]; decide), hre, setAt, getD_get hkl, if_pos hw]
    · skip
      rcases Nat.eq_zero_or_pos k with h0 | h0
      · subst h0
        refine xp_skip ?_
        refine xp_seq ?_
        refine xp_dw [] rfl rfl rfl ?_
        refine dw_pure (i := 0) rfl (by decide +kernel) (pv_move (v := .int .i64 _) rfl) ?_
        refine dw_pure (i := 1) rfl (by decide +kernel) (pv_of (v := .bool _) rfl) ?_
        refine dw_pure (i := 2) rfl (by decide +kernel) (pv_move (v := .bool _) rfl) ?_
        refine dw_skip (i := 3) rfl (by decide +kernel) rfl rfl ?_
        refine dw_skip (i := 4) rfl (by decide +kernel) rfl rfl ?_
        refine dw_skip (i := 5) rfl (by decide +kernel) rfl rfl ?_
        refine dw_skip (i := 6) rfl (by decide +kernel) rfl rfl ?_
        refine dw_skip (i := 7) rfl (by decide +kernel) rfl rfl ?_
        refine dw_skip (i := 8) rfl (by decide +kernel) rfl rfl ?_
        refine dw_skip (i := 9) rfl (by decide +kernel) rfl rfl ?_
        refine dw_skip (i := 10) rfl (by decide +kernel) rfl rfl ?_
        refine dw_skip (i := 11) rfl (by decide +kernel) rfl rfl ?_
        refine dw_skip (i := 12) rfl (by decide +kernel) rfl rfl ?_
        refine dw_pure (i := 13) rfl (by decide +kernel) (pv_pickF rfl rfl (v := .bool _) rfl) ?_
        refine dw_end rfl ?_
        refine xp_condF rfl (rfl) ?_
        refine xp_skip ?_
        refine xp_region rfl ?_
        refine op_pure (pv_move (v := .int .i64 _) rfl) ?_
        refine op_pure (pv_arith rfl (by omega)) ?_
        refine op_pure (pv_assign (v := .int .i64 _) rfl) ?_
        refine ⟨1, ⟨rfl, trivial⟩, rfl, rfl, (Ext.trans E_k E1), fun h3 E3 => ⟨hkl, firstErr_go hkr K2 (by rw [hre, setAt, getD_get hkl, if_neg (by simpa using hw), if_neg (by omega)])⟩, by first | omega | (dsimp only; omega), ?_⟩
        repeat (first | exact off_base _ _ _ | refine off_upd (by decide) ?_ | refine off_updL rfl ?_ | refine off_mix rfl ?_)
      · skip
        have hd : decide ((k : Int) > 0) = true := by simp; omega
        have hkp : k - 1 < l.length := by omega
        obtain ⟨g2, off2, hA2, hc2⟩ := (R.ext (Ext.trans E_k E1)).at (by omega) hkp
        obtain ⟨g3, off3, hA3, hc4⟩ := (R.ext (Ext.trans E_k E1)).at (by omega) hkl
        have e2 : ((k : Int) - 1).toNat = k - 1 := by omega
        have hc3 : Cells h1 g2 (off2 + ((k : Int) - 1).toNat * 1) (intC l[k - 1]) := by rw [e2]; exact hc2
        refine xp_skip ?_
        refine xp_seq ?_
        refine xp_dw [] rfl rfl rfl ?_
        refine dw_pure (i := 0) rfl (by decide +kernel) (pv_move (v := .int .i64 _) rfl) ?_
        refine dw_pure (i := 1) rfl (by decide +kernel) (pv_of (v := .bool _) rfl) ?_
        refine dw_pure (i := 2) rfl (by decide +kernel) (pv_move (v := .bool _) rfl) ?_
        refine dw_pureG (i := 3) rfl (by decide +kernel) rfl hd (pv_move (v := .slice _ _ _) rfl) ?_
        refine dw_pureG (i := 4) rfl (by decide +kernel) rfl hd (pv_move (v := .int .i64 _) rfl) ?_
        refine dw_pureG (i := 5) rfl (by decide +kernel) rfl hd (pv_indexE rfl hA3 rfl rfl rfl (by omega) (by omega)) ?_
        refine dw_loadG (i := 6) rfl (by decide +kernel) rfl hd ?_
        refine op_load (v := .int .i64 _) rfl rfl ((hc4) 0 _ rfl) ?_
        refine dw_pureG (i := 7) rfl (by decide +kernel) rfl hd (pv_move (v := .slice _ _ _) rfl) ?_
        refine dw_pureG (i := 8) rfl (by decide +kernel) rfl hd (pv_move (v := .int .i64 _) rfl) ?_
        refine dw_pureG (i := 9) rfl (by decide +kernel) rfl hd (pv_arith rfl (by omega)) ?_
        refine dw_pureG (i := 10) rfl (by decide +kernel) rfl hd (pv_indexE rfl hA2 rfl rfl rfl (by omega) (by omega)) ?_
        refine dw_loadG (i := 11) rfl (by decide +kernel) rfl hd ?_
        refine op_load (v := .int .i64 _) rfl rfl ((hc3) 0 _ rfl) ?_
        refine dw_pureG (i := 12) rfl (by decide +kernel) rfl hd (pv_of (v := .bool _) rfl) ?_
        refine dw_pure (i := 13) rfl (by decide +kernel) (pv_pickT rfl hd (v := .bool _) rfl) ?_
        refine dw_end rfl ?_
        refine xp_cond rfl (fun hq => ?_) (fun hq => ?_)
        · skip
          refine xp_seq ?_
          refine xp_region rfl ?_
          refine op_pure (pv_assign (v := .int .i64 _) rfl) ?_
          refine xp_ret ?_
          refine res_list (vs := [_]) Try.results105 ⟨resV_tmp rfl rfl, trivial⟩ fun V => ?_
          refine ⟨(Ext.trans (Ext.trans E_k E1) (ext_wl V)), intE ?_⟩
          have e5 : setAt below l k = 5 := by rw [setAt, getD_get hkl, getD_get hkp, if_neg (by simpa using hw), if_pos ⟨h0, by simpa using hq⟩]
          rw [checkSetM, firstErr_stop hkr K2 (by rw [hre, e5]; decide), hre, e5]
        · skip
          refine xp_skip ?_
          refine xp_region rfl ?_
          refine op_pure (pv_move (v := .int .i64 _) rfl) ?_
          refine op_pure (pv_arith rfl (by omega)) ?_
          refine op_pure (pv_assign (v := .int .i64 _) rfl) ?_
          refine ⟨k + 1, ⟨rfl, trivial⟩, rfl, rfl, (Ext.trans E_k E1), fun h3 E3 => ⟨hkl, firstErr_go hkr K2 (by rw [hre, setAt, getD_get hkl, getD_get hkp, if_neg (by simpa using hw), if_neg (by rintro ⟨_, h5⟩; simp at hq; omega)])⟩, by first | omega | (dsimp only; omega), ?_⟩
          repeat (first | exact off_base _ _ _ | refine off_upd (by decide) ?_ | refine off_updL rfl ?_ | refine off_mix rfl ?_)
  · skip
    have hke : k = l.length := by have := geI hk; omega
    refine xp_exit ?_
    refine xp_seq ?_
    refine xp_region rfl ?_
    refine op_pure (pv_assign (v := .int .i64 _) rfl) ?_
    refine xp_ret ?_
    refine res_list (vs := [_]) Try.results105 ⟨resV_tmp rfl rfl, trivial⟩ fun V => ?_
    refine ⟨(Ext.trans E_k (ext_wl V)), intE ?_⟩
    rw [List.take_of_length_le (by simp [hke])] at K2
    exact K2.symm
theorem checkParts_ok (m : MachP) (M : MOK m) (AB AQ AL AW : Option Addr) (cB cQ cL cW : Nat) (h : AH) (R : MachR h AB AQ AL AW m) :
    FnT Try.prog 104 #[machV AB AQ AL AW cB cQ cL cW m] h (fun v _ => v = .int .i64 0) := by
  have mbl := M.bl
  have mpl := M.pl
  have mll := M.ll
  have mrd := M.rods
  have mlv := M.levers
  have mrg := M.regs
  have mtr := M.travel
  refine call_body Try.func104 rfl Try.ntmps104 rfl ?_
  refine xp_seq ?_
  refine xp_region rfl ?_
  refine op_box (v := .agg #[.int .i64 _, .int .i64 _, .int .i64 _, .int .i64 _, .int .i64 _, .slice _ _ _, .slice _ _ _, .slice _ _ _, .slice _ _ _]) (cs := [_, _, _, _, _, _, _, _, _]) rfl rfl fun b1 hb1 => ?_
  refine wp_norm [_] rfl ?_
  refine op_pure (pv_assign (v := .int .i64 _) rfl) ?_
  refine xp_seq ?_
  refine xp_seq ?_
  refine xp_region rfl ?_
  refine op_pure (pv_fieldAddr rfl rfl rfl rfl 5 rfl) ?_
  refine op_loadP 0 (v := .slice _ _ _) rfl rfl rfl rfl ?_
  refine op_pure (pv_len rfl rfl) ?_
  refine op_pure (pv_of (v := .bool _) rfl) ?_
  refine xp_condF rfl (decide_eq_false (by omega)) ?_
  refine xp_skip ?_
  refine xp_seq ?_
  refine xp_seq ?_
  refine xp_region rfl ?_
  refine op_pure (pv_assign (v := .int .i64 _) rfl) ?_
  refine xp_block ?_
  refine xp_loopB [2, 3, 12, 13, 14, 15, 16, 17, 18, 19, 20, 21, 22, 23, 24, 25, 26, 27, 28] 1 (α := Nat) (fun k => [(3, .int .i64 k)]) (fun k => _) (fun k h_k => k ≤ m.buttons.length) (fun k => m.buttons.length - k) (0) ⟨rfl, trivial⟩ (rfl) (Nat.zero_le _) ?_
  rintro k T1 h_k E_k J_k
  refine goes_norm [_] rfl ?_
  refine xp_seq ?_
  refine xp_seq ?_
  refine xp_region rfl ?_
  refine op_pure (pv_move (v := .int .i64 _) rfl) ?_
  refine op_pure (pv_fieldAddr rfl rfl rfl rfl 5 rfl) ?_
  refine op_loadP 0 (v := .slice _ _ _) rfl rfl rfl rfl ?_
  refine op_pure (pv_len rfl rfl) ?_
  refine op_pure (pv_of (v := .bool _) rfl) ?_
  refine xp_cond rfl (fun hk => ?_) (fun hk => ?_)
  · skip
    have hkl : k < m.buttons.length := ltI hk
    obtain ⟨g, off, hA, hc⟩ := (R.b.ext E_k).at (by omega) hkl
    have hb := M.btn _ (List.getElem_mem hkl)
    refine xp_skip ?_
    refine xp_seq ?_
    refine xp_block ?_
    refine xp_seq ?_
    refine xp_dw [] rfl rfl rfl ?_
    refine dw_pure (i := 0) rfl (by decide +kernel) (pv_fieldAddr rfl rfl rfl rfl 5 rfl) ?_
    refine dw_load (i := 1) rfl (by decide +kernel) ?_
    refine op_loadP 0 (v := .slice _ _ _) rfl rfl rfl rfl ?_
    refine dw_pure (i := 2) rfl (by decide +kernel) (pv_move (v := .int .i64 _) rfl) ?_
    refine dw_pure (i := 3) rfl (by decide +kernel) (pv_indexE rfl hA rfl rfl rfl (by omega) (by omega)) ?_
    refine dw_load (i := 4) rfl (by decide +kernel) ?_
    refine op_load (v := .int .i64 _) rfl rfl ((hc) 0 _ rfl) ?_
    refine dw_pure (i := 5) rfl (by decide +kernel) (pv_fieldAddr rfl rfl rfl rfl 0 rfl) ?_
    refine dw_load (i := 6) rfl (by decide +kernel) ?_
    refine op_loadP 0 (v := .int .i64 _) rfl rfl rfl rfl ?_
    refine dw_pure (i := 7) rfl (by decide +kernel) (pv_arith rfl (by omega)) ?_
    refine dw_last (i := 8) rfl (by decide +kernel) (by decide +kernel) ?_
    refine op_fn (caps := []) (vs := [.int .i64 _, .int .i64 _, .int .i64 _]) rfl rfl rfl (among_yes _ _ _ (by omega) h_k) ?_
    rintro _ h1 E1 rfl
    refine dw_pure (i := 9) rfl (by decide +kernel) (pv_of (v := .bool _) rfl) ?_
    refine dw_end rfl ?_
    refine xp_condF rfl (rfl) ?_
    refine xp_skip ?_
    refine xp_region rfl ?_
    refine op_pure (pv_move (v := .int .i64 _) rfl) ?_
    refine op_pure (pv_arith rfl (by omega)) ?_
    refine op_pure (pv_assign (v := .int .i64 _) rfl) ?_
    refine ⟨k + 1, ⟨rfl, trivial⟩, rfl, rfl, (Ext.trans E_k E1), fun h3 E3 => hkl, by first | omega | (dsimp only; omega), ?_⟩
    repeat (first | exact off_base _ _ _ | refine off_upd (by decide) ?_ | refine off_updL rfl ?_ | refine off_mix rfl ?_)
  · skip
    refine xp_exit ?_
    refine xp_seq ?_
    refine xp_seq ?_
    refine xp_region rfl ?_
    refine op_pure (pv_fieldAddr rfl rfl rfl rfl 6 rfl) ?_
    refine op_loadP 0 (v := .slice _ _ _) rfl rfl rfl rfl ?_
    refine op_pure (pv_len rfl rfl) ?_
    refine op_pure (pv_of (v := .bool _) rfl) ?_
    refine xp_condF rfl (decide_eq_false (by omega)) ?_
    refine xp_skip ?_
    refine xp_seq ?_
    refine xp_seq ?_
    refine xp_region rfl ?_
    refine op_pure (pv_assign (v := .int .i64 _) rfl) ?_
    refine xp_block ?_
    refine xp_loopB [2, 4, 5, 33, 34, 35, 36, 37, 38, 39, 40, 41, 42, 43, 44, 45, 46, 47, 48, 49, 50, 51, 52, 53, 54, 55, 56, 57, 58, 59, 60, 61, 62, 63, 64, 65, 66] 1 (α := Nat) (fun j => [(4, .int .i64 j)]) (fun j => _) (fun j h_j => j ≤ m.pins.length) (fun j => m.pins.length - j) (0) ⟨rfl, trivial⟩ (rfl) (Nat.zero_le _) ?_
    rintro j T2 h_j E_j J_j
    refine goes_norm [_] rfl ?_
    refine xp_seq ?_
    refine xp_seq ?_
    refine xp_region rfl ?_
    refine op_pure (pv_move (v := .int .i64 _) rfl) ?_
    refine op_pure (pv_fieldAddr rfl rfl rfl rfl 6 rfl) ?_
    refine op_loadP 0 (v := .slice _ _ _) rfl rfl rfl rfl ?_
    refine op_pure (pv_len rfl rfl) ?_
    refine op_pure (pv_of (v := .bool _) rfl) ?_
    refine xp_cond rfl (fun hj => ?_) (fun hj => ?_)
    · skip
      have hjl : j < m.pins.length := ltI hj
      obtain ⟨g, off, hA, hc⟩ := (R.q.ext (Ext.trans E_k E_j)).at (by omega) hjl
      obtain ⟨p1, p2, p3⟩ := M.pin _ (List.getElem_mem hjl)
      refine xp_skip ?_
      refine xp_seq ?_
      refine xp_block ?_
      refine xp_seq ?_
      refine xp_region rfl ?_
      refine op_pure (pv_fieldAddr rfl rfl rfl rfl 6 rfl) ?_
      refine op_loadP 0 (v := .slice _ _ _) rfl rfl rfl rfl ?_
      refine op_pure (pv_move (v := .int .i64 _) rfl) ?_
      refine op_pure (pv_indexE rfl hA rfl rfl rfl (by omega) (by omega)) ?_
      refine op_loadA rfl rfl rfl rfl (hc) ?_
      refine op_alloc (cs := [_, _, _]) rfl rfl fun b5 hb5 => ?_
      refine wp_norm [_, _] rfl ?_
      refine op_storeP 1 (v := .agg #[.int .i64 _, .int .i64 _, .int .i64 _]) (vs := [_, _, _]) (c' := [_, _, _]) rfl rfl rfl rfl rfl rfl rfl rfl rfl ?_
      refine wp_norm [_, _] rfl ?_
      refine xp_seq ?_
      refine xp_seq ?_
      refine xp_region rfl ?_
      refine op_pure (pv_fieldAddr rfl rfl rfl rfl 0 rfl) ?_
      refine op_loadP 1 (v := .int .i64 _) rfl rfl rfl rfl ?_
      refine op_pure (pv_fieldAddr rfl rfl rfl rfl 0 rfl) ?_
      refine op_loadP 0 (v := .int .i64 _) rfl rfl rfl rfl ?_
      refine op_pure (pv_arith rfl (by omega)) ?_
      refine op_fn (caps := []) (vs := [.int .i64 _, .int .i64 _, .int .i64 _]) rfl rfl rfl (among_yes _ _ _ (by omega) h_j) ?_
      rintro _ h1 E1 rfl
      refine op_pure (pv_of (v := .bool _) rfl) ?_
      refine op_pure (pv_move (v := .bool _) rfl) ?_
      refine guard_yes rfl rfl ?_
      refine op_pure (pv_fieldAddr rfl rfl rfl rfl 1 rfl) ?_
      refine guard_yes rfl rfl ?_
      refine op_loadP 1 (v := .int .i64 _) rfl rfl rfl rfl ?_
      refine guard_yes rfl rfl ?_
      refine op_pure (pv_fieldAddr rfl rfl rfl rfl 1 rfl) ?_
      refine guard_yes rfl rfl ?_
      refine op_loadP 0 (v := .int .i64 _) rfl rfl rfl rfl ?_
      refine guard_yes rfl rfl ?_
      refine op_pure (pv_arith rfl (by omega)) ?_
      refine guard_yes rfl rfl ?_
      refine op_fn (caps := []) (vs := [.int .i64 _, .int .i64 _, .int .i64 _]) rfl rfl rfl (among_yes _ _ _ (by omega) h1) ?_
      rintro _ h2 E2 rfl
      refine guard_yes rfl rfl ?_
      refine op_pure (pv_of (v := .bool _) rfl) ?_
      refine op_pure (pv_pickF rfl rfl (v := .bool _) rfl) ?_
      refine xp_condF rfl (rfl) ?_
      refine xp_skip ?_
      refine xp_seq ?_
      refine xp_region rfl ?_
      refine op_pure (pv_fieldAddr rfl rfl rfl rfl 2 rfl) ?_
      refine op_loadP 1 (v := .int .i64 _) rfl rfl rfl rfl ?_
      refine op_pure (pv_fieldAddr rfl rfl rfl rfl 3 rfl) ?_
      refine op_loadP 0 (v := .int .i64 _) rfl rfl rfl rfl ?_
      refine op_fn (caps := []) (vs := [.int .i64 _, .int .i64 _, .int .i64 _]) rfl rfl rfl (among_yes _ _ _ (by omega) h2) ?_
      rintro _ h3 E3 rfl
      refine op_pure (pv_of (v := .bool _) rfl) ?_
      refine xp_condF rfl (rfl) ?_
      refine xp_skip ?_
      refine xp_region rfl ?_
      refine op_pure (pv_move (v := .int .i64 _) rfl) ?_
      refine op_pure (pv_arith rfl (by omega)) ?_
      refine op_pure (pv_assign (v := .int .i64 _) rfl) ?_
      refine ⟨j + 1, ⟨rfl, trivial⟩, rfl, rfl, (Ext.trans (Ext.trans (Ext.trans E_j E1) E2) E3), fun h3 E3 => hjl, by first | omega | (dsimp only; omega), ?_⟩
      repeat (first | exact off_base _ _ _ | refine off_upd (by decide) ?_ | refine off_updL rfl ?_ | refine off_mix rfl ?_)
    · skip
      refine xp_exit ?_
      refine xp_seq ?_
      refine xp_seq ?_
      refine xp_region rfl ?_
      refine op_pure (pv_fieldAddr rfl rfl rfl rfl 7 rfl) ?_
      refine op_loadP 0 (v := .slice _ _ _) rfl rfl rfl rfl ?_
      refine op_pure (pv_len rfl rfl) ?_
      refine op_pure (pv_of (v := .bool _) rfl) ?_
      refine xp_condF rfl (decide_eq_false (by omega)) ?_
      refine xp_skip ?_
      refine xp_seq ?_
      refine xp_seq ?_
      refine xp_region rfl ?_
      refine op_pure (pv_assign (v := .int .i64 _) rfl) ?_
      refine xp_block ?_
      refine xp_loopB [2, 6, 7, 71, 72, 73, 74, 75, 76, 77, 78, 79, 80, 81, 82, 83, 84, 85, 86, 87, 88, 89, 90, 91, 92, 93, 94, 95, 96, 97, 98, 99, 100, 101, 102, 103, 104, 105, 106, 107, 108, 109, 110, 111, 112, 113, 114, 115, 116] 1 (α := Nat) (fun i => [(6, .int .i64 i)]) (fun i => _) (fun i h_i => i ≤ m.links.length) (fun i => m.links.length - i) (0) ⟨rfl, trivial⟩ (rfl) (Nat.zero_le _) ?_
      rintro i T3 h_i E_i J_i
      refine goes_norm [_] rfl ?_
      refine xp_seq ?_
      refine xp_seq ?_
      refine xp_region rfl ?_
      refine op_pure (pv_move (v := .int .i64 _) rfl) ?_
      refine op_pure (pv_fieldAddr rfl rfl rfl rfl 7 rfl) ?_
      refine op_loadP 0 (v := .slice _ _ _) rfl rfl rfl rfl ?_
      refine op_pure (pv_len rfl rfl) ?_
      refine op_pure (pv_of (v := .bool _) rfl) ?_
      refine xp_cond rfl (fun hi => ?_) (fun hi => ?_)
      · skip
        have hil : i < m.links.length := ltI hi
        obtain ⟨g, off, hA, hc⟩ := (R.l.ext (Ext.trans (Ext.trans E_k E_j) E_i)).at (by omega) hil
        obtain ⟨p1, p2, p3, p4, p5⟩ := M.link _ (List.getElem_mem hil)
        refine xp_skip ?_
        refine xp_seq ?_
        refine xp_block ?_
        refine xp_seq ?_
        refine xp_region rfl ?_
        refine op_pure (pv_fieldAddr rfl rfl rfl rfl 7 rfl) ?_
        refine op_loadP 0 (v := .slice _ _ _) rfl rfl rfl rfl ?_
        refine op_pure (pv_move (v := .int .i64 _) rfl) ?_
        refine op_pure (pv_indexE rfl hA rfl rfl rfl (by omega) (by omega)) ?_
        refine op_loadA rfl rfl rfl rfl (hc) ?_
        refine op_alloc (cs := [_, _, _, _]) rfl rfl fun b7 hb7 => ?_
        refine wp_norm [_, _] rfl ?_
        refine op_storeP 1 (v := .agg #[.int .i64 _, .int .i64 _, .int .i64 _, .int .i64 _]) (vs := [_, _, _, _]) (c' := [_, _, _, _]) rfl rfl rfl rfl rfl rfl rfl rfl rfl ?_
        refine wp_norm [_, _] rfl ?_
        refine xp_seq ?_
        refine xp_seq ?_
        refine xp_region rfl ?_
        refine op_pure (pv_fieldAddr rfl rfl rfl rfl 0 rfl) ?_
        refine op_loadP 1 (v := .int .i64 _) rfl rfl rfl rfl ?_
        refine op_pure (pv_fieldAddr rfl rfl rfl rfl 0 rfl) ?_
        refine op_loadP 0 (v := .int .i64 _) rfl rfl rfl rfl ?_
        refine op_pure (pv_arith rfl (by omega)) ?_
        refine op_fn (caps := []) (vs := [.int .i64 _, .int .i64 _, .int .i64 _]) rfl rfl rfl (among_yes _ _ _ (by omega) h_i) ?_
        rintro _ h1 E1 rfl
        refine op_pure (pv_of (v := .bool _) rfl) ?_
        refine op_pure (pv_move (v := .bool _) rfl) ?_
        refine guard_yes rfl rfl ?_
        refine op_pure (pv_fieldAddr rfl rfl rfl rfl 1 rfl) ?_
        refine guard_yes rfl rfl ?_
        refine op_loadP 1 (v := .int .i64 _) rfl rfl rfl rfl ?_
        refine guard_yes rfl rfl ?_
        refine op_pure (pv_fieldAddr rfl rfl rfl rfl 0 rfl) ?_
        refine guard_yes rfl rfl ?_
        refine op_loadP 0 (v := .int .i64 _) rfl rfl rfl rfl ?_
        refine guard_yes rfl rfl ?_
        refine op_pure (pv_arith rfl (by omega)) ?_
        refine guard_yes rfl rfl ?_
        refine op_fn (caps := []) (vs := [.int .i64 _, .int .i64 _, .int .i64 _]) rfl rfl rfl (among_yes _ _ _ (by omega) h1) ?_
        rintro _ h2 E2 rfl
        refine guard_yes rfl rfl ?_
        refine op_pure (pv_of (v := .bool _) rfl) ?_
        refine op_pure (pv_pickF rfl rfl (v := .bool _) rfl) ?_
        refine xp_condF rfl (rfl) ?_
        refine xp_skip ?_
        refine xp_seq ?_
        refine xp_seq ?_
        refine xp_region rfl ?_
        refine op_pure (pv_fieldAddr rfl rfl rfl rfl 0 rfl) ?_
        refine op_loadP 1 (v := .int .i64 _) rfl rfl rfl rfl ?_
        refine op_pure (pv_fieldAddr rfl rfl rfl rfl 1 rfl) ?_
        refine op_loadP 1 (v := .int .i64 _) rfl rfl rfl rfl ?_
        refine op_pure (pv_of (v := .bool _) rfl) ?_
        refine xp_condF rfl (by simpa using p3) ?_
        refine xp_skip ?_
        refine xp_seq ?_
        refine xp_seq ?_
        refine xp_region rfl ?_
        refine op_pure (pv_fieldAddr rfl rfl rfl rfl 2 rfl) ?_
        refine op_loadP 1 (v := .int .i64 _) rfl rfl rfl rfl ?_
        refine op_pure (pv_fieldAddr rfl rfl rfl rfl 2 rfl) ?_
        refine op_loadP 0 (v := .int .i64 _) rfl rfl rfl rfl ?_
        refine op_pure (pv_arith rfl (by omega)) ?_
        refine op_fn (caps := []) (vs := [.int .i64 _, .int .i64 _, .int .i64 _]) rfl rfl rfl (among_yes _ _ _ (by omega) h2) ?_
        rintro _ h3 E3 rfl
        refine op_pure (pv_of (v := .bool _) rfl) ?_
        refine xp_condF rfl (rfl) ?_
        refine xp_skip ?_
        refine xp_seq ?_
        refine xp_region rfl ?_
        refine op_pure (pv_fieldAddr rfl rfl rfl rfl 3 rfl) ?_
        refine op_loadP 1 (v := .int .i64 _) rfl rfl rfl rfl ?_
        refine op_pure (pv_fieldAddr rfl rfl rfl rfl 3 rfl) ?_
        refine op_loadP 0 (v := .int .i64 _) rfl rfl rfl rfl ?_
        refine op_fn (caps := []) (vs := [.int .i64 _, .int .i64 _, .int .i64 _]) rfl rfl rfl (among_yes _ _ _ (by omega) h3) ?_
        rintro _ h4 E4 rfl
        refine op_pure (pv_of (v := .bool _) rfl) ?_
        refine xp_condF rfl (rfl) ?_
        refine xp_skip ?_
        refine xp_region rfl ?_
        refine op_pure (pv_move (v := .int .i64 _) rfl) ?_
        refine op_pure (pv_arith rfl (by omega)) ?_
        refine op_pure (pv_assign (v := .int .i64 _) rfl) ?_
        refine ⟨i + 1, ⟨rfl, trivial⟩, rfl, rfl, (Ext.trans (Ext.trans (Ext.trans (Ext.trans E_i E1) E2) E3) E4), fun h3 E3 => hil, by first | omega | (dsimp only; omega), ?_⟩
        repeat (first | exact off_base _ _ _ | refine off_upd (by decide) ?_ | refine off_updL rfl ?_ | refine off_mix rfl ?_)
      · skip
        refine xp_exit ?_
        refine xp_seq ?_
        refine xp_region rfl ?_
        refine op_pure (pv_assign (v := .int .i64 _) rfl) ?_
        refine xp_ret ?_
        refine res_list (vs := [_]) Try.results104 ⟨resV_tmp rfl rfl, trivial⟩ fun V => ?_
        exact ⟨(Ext.trans (Ext.trans (Ext.trans E_k E_j) E_i) (ext_wl V)), rfl⟩
theorem CheckR_ok (m : MachP) (M : MOK m) (AB AQ AL AW : Option Addr) (cB cQ cL cW : Nat) (h : AH) (R : MachR h AB AQ AL AW m) :
    FnT Try.prog 78 #[machV AB AQ AL AW cB cQ cL cW m] h (fun v _ => v = .int .i64 0) := by
  have mrd := M.rods
  have mlv := M.levers
  have mrg := M.regs
  have mtr := M.travel
  have mop := M.opn
  have mwl := M.wl
  refine call_body Try.func78 rfl Try.ntmps78 rfl ?_
  refine xp_seq ?_
  refine xp_region rfl ?_
  refine op_box (v := .agg #[.int .i64 _, .int .i64 _, .int .i64 _, .int .i64 _, .int .i64 _, .slice _ _ _, .slice _ _ _, .slice _ _ _, .slice _ _ _]) (cs := [_, _, _, _, _, _, _, _, _]) rfl rfl fun b1 hb1 => ?_
  refine wp_norm [_] rfl ?_
  refine op_pure (pv_assign (v := .int .i64 _) rfl) ?_
  refine xp_seq ?_
  refine xp_seq ?_
  refine xp_region rfl ?_
  refine op_pure (pv_fieldAddr rfl rfl rfl rfl 0 rfl) ?_
  refine op_loadP 0 (v := .int .i64 _) rfl rfl rfl rfl ?_
  refine op_fn (caps := []) (vs := [.int .i64 _, .int .i64 _, .int .i64 _]) rfl rfl rfl (among_yes _ _ _ (by omega) h) ?_
  rintro _ h1 E1 rfl
  refine op_pure (pv_of (v := .bool _) rfl) ?_
  refine op_pure (pv_move (v := .bool _) rfl) ?_
  refine guard_yes rfl rfl ?_
  refine op_pure (pv_fieldAddr rfl rfl rfl rfl 1 rfl) ?_
  refine guard_yes rfl rfl ?_
  refine op_loadP 0 (v := .int .i64 _) rfl rfl rfl rfl ?_
  refine guard_yes rfl rfl ?_
  refine op_fn (caps := []) (vs := [.int .i64 _, .int .i64 _, .int .i64 _]) rfl rfl rfl (among_yes _ _ _ (by omega) h1) ?_
  rintro _ h2 E2 rfl
  refine guard_yes rfl rfl ?_
  refine op_pure (pv_of (v := .bool _) rfl) ?_
  refine op_pure (pv_pickF rfl rfl (v := .bool _) rfl) ?_
  refine op_pure (pv_move (v := .bool _) rfl) ?_
  refine guard_yes rfl rfl ?_
  refine op_pure (pv_fieldAddr rfl rfl rfl rfl 2 rfl) ?_
  refine guard_yes rfl rfl ?_
  refine op_loadP 0 (v := .int .i64 _) rfl rfl rfl rfl ?_
  refine guard_yes rfl rfl ?_
  refine op_fn (caps := []) (vs := [.int .i64 _, .int .i64 _, .int .i64 _]) rfl rfl rfl (among_yes _ _ _ (by omega) h2) ?_
  rintro _ h3 E3 rfl
  refine guard_yes rfl rfl ?_
  refine op_pure (pv_of (v := .bool _) rfl) ?_
  refine op_pure (pv_pickF rfl rfl (v := .bool _) rfl) ?_
  refine op_pure (pv_move (v := .bool _) rfl) ?_
  refine guard_yes rfl rfl ?_
  refine op_pure (pv_fieldAddr rfl rfl rfl rfl 3 rfl) ?_
  refine guard_yes rfl rfl ?_
  refine op_loadP 0 (v := .int .i64 _) rfl rfl rfl rfl ?_
  refine guard_yes rfl rfl ?_
  refine op_fn (caps := []) (vs := [.int .i64 _, .int .i64 _, .int .i64 _]) rfl rfl rfl (among_yes _ _ _ (by omega) h3) ?_
  rintro _ h4 E4 rfl
  refine guard_yes rfl rfl ?_
  refine op_pure (pv_of (v := .bool _) rfl) ?_
  refine op_pure (pv_pickF rfl rfl (v := .bool _) rfl) ?_
  refine op_pure (pv_move (v := .bool _) rfl) ?_
  refine guard_yes rfl rfl ?_
  refine op_pure (pv_fieldAddr rfl rfl rfl rfl 4 rfl) ?_
  refine guard_yes rfl rfl ?_
  refine op_loadP 0 (v := .int .i64 _) rfl rfl rfl rfl ?_
  refine guard_yes rfl rfl ?_
  refine op_pure (pv_fieldAddr rfl rfl rfl rfl 3 rfl) ?_
  refine guard_yes rfl rfl ?_
  refine op_loadP 0 (v := .int .i64 _) rfl rfl rfl rfl ?_
  refine guard_yes rfl rfl ?_
  refine op_fn (caps := []) (vs := [.int .i64 _, .int .i64 _, .int .i64 _]) rfl rfl rfl (among_yes _ _ _ (by omega) h4) ?_
  rintro _ h5 E5 rfl
  refine guard_yes rfl rfl ?_
  refine op_pure (pv_of (v := .bool _) rfl) ?_
  refine op_pure (pv_pickF rfl rfl (v := .bool _) rfl) ?_
  refine xp_condF rfl (rfl) ?_
  refine xp_skip ?_
  refine xp_seq ?_
  refine xp_seq ?_
  refine xp_region rfl ?_
  refine op_loadPA 0 (vs := [.int .i64 _, .int .i64 _, .int .i64 _, .int .i64 _, .int .i64 _, .slice _ _ _, .slice _ _ _, .slice _ _ _, .slice _ _ _]) rfl rfl rfl rfl rfl ?_
  refine op_fn (caps := []) (vs := [.agg #[.int .i64 _, .int .i64 _, .int .i64 _, .int .i64 _, .int .i64 _, .slice _ _ _, .slice _ _ _, .slice _ _ _, .slice _ _ _]]) rfl rfl rfl (checkParts_ok m M AB AQ AL AW cB cQ cL cW h5 (R.ext (Ext.trans (Ext.trans (Ext.trans (Ext.trans E1 E2) E3) E4) E5))) ?_
  rintro _ h6 E6 rfl
  refine op_pure (pv_assign (v := .int .i64 _) rfl) ?_
  refine xp_seq ?_
  refine xp_region rfl ?_
  refine op_pure (pv_move (v := .int .i64 _) rfl) ?_
  refine op_pure (pv_of (v := .bool _) rfl) ?_
  refine xp_condF rfl (rfl) ?_
  refine xp_skip ?_
  refine xp_seq ?_
  refine xp_seq ?_
  refine xp_region rfl ?_
  refine op_pure (pv_fieldAddr rfl rfl rfl rfl 8 rfl) ?_
  refine op_loadP 0 (v := .slice _ _ _) rfl rfl rfl rfl ?_
  refine op_pure (pv_len rfl rfl) ?_
  refine op_pure (pv_fieldAddr rfl rfl rfl rfl 1 rfl) ?_
  refine op_loadP 0 (v := .int .i64 _) rfl rfl rfl rfl ?_
  refine op_pure (pv_of (v := .bool _) rfl) ?_
  refine xp_condF rfl (by simp [mwl]) ?_
  refine xp_skip ?_
  refine xp_seq ?_
  refine xp_seq ?_
  refine xp_region rfl ?_
  refine op_pure (pv_assign (v := .int .i64 _) rfl) ?_
  refine xp_block ?_
  refine xp_loopB [2, 4, 46, 47, 48, 49, 50, 51, 52, 53, 54, 55, 56, 57, 58, 59] 1 (α := Nat) (fun k => [(4, .int .i64 k)]) (fun k => _) (fun k h_k => k ≤ m.weights.length) (fun k => m.weights.length - k) (0) ⟨rfl, trivial⟩ (rfl) (Nat.zero_le _) ?_
  rintro k T1 h_k E_k J_k
  refine goes_norm [_] rfl ?_
  refine xp_seq ?_
  refine xp_seq ?_
  refine xp_region rfl ?_
  refine op_pure (pv_move (v := .int .i64 _) rfl) ?_
  refine op_pure (pv_fieldAddr rfl rfl rfl rfl 8 rfl) ?_
  refine op_loadP 0 (v := .slice _ _ _) rfl rfl rfl rfl ?_
  refine op_pure (pv_len rfl rfl) ?_
  refine op_pure (pv_of (v := .bool _) rfl) ?_
  refine xp_cond rfl (fun hk => ?_) (fun hk => ?_)
  · skip
    have hkl : k < m.weights.length := ltI hk
    obtain ⟨g, off, hA, hc⟩ := (R.w.ext (Ext.trans (Ext.trans (Ext.trans (Ext.trans (Ext.trans (Ext.trans E1 E2) E3) E4) E5) E6) E_k)).at (by omega) hkl
    have hb := M.wt _ (List.getElem_mem hkl)
    refine xp_skip ?_
    refine xp_seq ?_
    refine xp_block ?_
    refine xp_seq ?_
    refine xp_region rfl ?_
    refine op_pure (pv_fieldAddr rfl rfl rfl rfl 8 rfl) ?_
    refine op_loadP 0 (v := .slice _ _ _) rfl rfl rfl rfl ?_
    refine op_pure (pv_move (v := .int .i64 _) rfl) ?_
    refine op_pure (pv_indexE rfl hA rfl rfl rfl (by omega) (by omega)) ?_
    refine op_load (v := .int .i64 _) rfl rfl ((hc) 0 _ rfl) ?_
    refine op_fn (caps := []) (vs := [.int .i64 _, .int .i64 _, .int .i64 _]) rfl rfl rfl (among_yes _ _ _ (by omega) h_k) ?_
    rintro _ h7 E7 rfl
    refine op_pure (pv_of (v := .bool _) rfl) ?_
    refine xp_condF rfl (rfl) ?_
    refine xp_skip ?_
    refine xp_region rfl ?_
    refine op_pure (pv_move (v := .int .i64 _) rfl) ?_
    refine op_pure (pv_arith rfl (by omega)) ?_
    refine op_pure (pv_assign (v := .int .i64 _) rfl) ?_
    refine ⟨k + 1, ⟨rfl, trivial⟩, rfl, rfl, (Ext.trans E_k E7), fun h3 E3 => hkl, by first | omega | (dsimp only; omega), ?_⟩
    repeat (first | exact off_base _ _ _ | refine off_upd (by decide) ?_ | refine off_updL rfl ?_ | refine off_mix rfl ?_)
  · skip
    refine xp_exit ?_
    refine xp_seq ?_
    refine xp_region rfl ?_
    refine op_pure (pv_assign (v := .int .i64 _) rfl) ?_
    refine xp_ret ?_
    refine res_list (vs := [_]) Try.results78 ⟨resV_tmp rfl rfl, trivial⟩ fun V => ?_
    exact ⟨(Ext.trans (Ext.trans (Ext.trans (Ext.trans (Ext.trans (Ext.trans (Ext.trans E1 E2) E3) E4) E5) E6) E_k) (ext_wl V)), rfl⟩
theorem checkHandR_ok (m : MachP) (M : MOK m) (a : HandP) (AB AQ AL AW HA OA : Option Addr) (cB cQ cL cW cH cO : Nat) (h : AH) (RH : HandR h HA OA a) (h1 : a.buttons.length < 2 ^ 40) (h2 : a.on.length < 2 ^ 40) :
    FnT Try.prog 79 #[machV AB AQ AL AW cB cQ cL cW m, handV HA OA cH cO a] h (fun v _ => v = .int .i64 (checkHandM m a)) := by
  have hbl := M.bl
  have hrg := M.regs
  have hc' := chk_of M
  refine call_body Try.func79 rfl Try.ntmps79 rfl ?_
  refine xp_seq ?_
  refine xp_region rfl ?_
  refine op_box (v := .agg #[.int .i64 _, .int .i64 _, .int .i64 _, .int .i64 _, .int .i64 _, .slice _ _ _, .slice _ _ _, .slice _ _ _, .slice _ _ _]) (cs := [_, _, _, _, _, _, _, _, _]) rfl rfl fun b2 hb2 => ?_
  refine wp_norm [_] rfl ?_
  refine op_box (v := .agg #[.slice _ _ _, .slice _ _ _]) (cs := [_, _]) rfl rfl fun b3 hb3 => ?_
  refine wp_norm [_, _] rfl ?_
  refine op_pure (pv_assign (v := .int .i64 _) rfl) ?_
  refine xp_seq ?_
  refine xp_seq ?_
  refine xp_region rfl ?_
  refine op_pure (pv_fieldAddr rfl rfl rfl rfl 0 rfl) ?_
  refine op_loadP 1 (v := .slice _ _ _) rfl rfl rfl rfl ?_
  refine op_pure (pv_fieldAddr rfl rfl rfl rfl 5 rfl) ?_
  refine op_loadP 0 (v := .slice _ _ _) rfl rfl rfl rfl ?_
  refine op_pure (pv_len rfl rfl) ?_
  refine op_fn (caps := []) (vs := [.slice _ _ _, .int .i64 _]) rfl rfl rfl (checkSetR_ok a.buttons m.buttons.length (by omega) HA cH h (RH.b.ext (Ext.refl _)) h1) ?_
  rintro _ h4 E4 rfl
  refine op_pure (pv_assign (v := .int .i64 _) rfl) ?_
  refine xp_seq ?_
  refine xp_region rfl ?_
  refine op_pure (pv_move (v := .int .i64 _) rfl) ?_
  refine op_pure (pv_of (v := .bool _) rfl) ?_
  refine xp_cond rfl (fun hs => ?_) (fun hs => ?_)
  · skip
    have hs' : checkSetM a.buttons m.buttons.length ≠ 0 := by simpa using hs
    refine xp_seq ?_
    refine xp_region rfl ?_
    refine op_pure (pv_move (v := .int .i64 _) rfl) ?_
    refine op_pure (pv_assign (v := .int .i64 _) rfl) ?_
    refine xp_ret ?_
    refine res_list (vs := [_]) Try.results79 ⟨resV_tmp rfl rfl, trivial⟩ fun V => ?_
    exact ⟨(Ext.trans E4 (ext_wl V)), intE (by rw [checkHandM, if_neg (by simp [hc']), if_pos hs'])⟩
  · skip
    have hs' : checkSetM a.buttons m.buttons.length = 0 := by simpa using hs
    refine xp_skip ?_
    refine xp_seq ?_
    refine xp_region rfl ?_
    refine op_pure (pv_fieldAddr rfl rfl rfl rfl 1 rfl) ?_
    refine op_loadP 1 (v := .slice _ _ _) rfl rfl rfl rfl ?_
    refine op_pure (pv_fieldAddr rfl rfl rfl rfl 2 rfl) ?_
    refine op_loadP 0 (v := .int .i64 _) rfl rfl rfl rfl ?_
    refine op_fn (caps := []) (vs := [.slice _ _ _, .int .i64 _]) rfl rfl rfl (checkSetR_ok a.on m.regs (by omega) OA cO h4 (RH.o.ext E4) h2) ?_
    rintro _ h5 E5 rfl
    refine op_pure (pv_assign (v := .int .i64 _) rfl) ?_
    refine xp_ret ?_
    refine res_list (vs := [_]) Try.results79 ⟨resV_tmp rfl rfl, trivial⟩ fun V => ?_
    exact ⟨(Ext.trans (Ext.trans E4 E5) (ext_wl V)), intE (by rw [checkHandM, if_neg (by simp [hc']), if_neg (by simp [hs'])])⟩
theorem checkR_ok (m : MachP) (M : MOK m) (a : HandP) (AB AQ AL AW HA OA : Option Addr) (cB cQ cL cW cH cO : Nat) (h : AH) (RM : MachR h AB AQ AL AW m) (RH : HandR h HA OA a) (h1 : a.buttons.length < 2 ^ 40) (h2 : a.on.length < 2 ^ 40) :
    FnT Try.prog 45 #[machV AB AQ AL AW cB cQ cL cW m, handV HA OA cH cO a] h (fun v _ => v = .int .i64 (checkHandM m a)) := by
  refine call_body Try.func45 rfl Try.ntmps45 rfl ?_
  refine xp_seq ?_
  refine xp_region rfl ?_
  refine op_box (v := .agg #[.int .i64 _, .int .i64 _, .int .i64 _, .int .i64 _, .int .i64 _, .slice _ _ _, .slice _ _ _, .slice _ _ _, .slice _ _ _]) (cs := [_, _, _, _, _, _, _, _, _]) rfl rfl fun b2 hb2 => ?_
  refine wp_norm [_] rfl ?_
  refine op_box (v := .agg #[.slice _ _ _, .slice _ _ _]) (cs := [_, _]) rfl rfl fun b3 hb3 => ?_
  refine wp_norm [_, _] rfl ?_
  refine op_pure (pv_assign (v := .int .i64 _) rfl) ?_
  refine xp_seq ?_
  refine xp_seq ?_
  refine xp_region rfl ?_
  refine op_loadPA 0 (vs := [.int .i64 _, .int .i64 _, .int .i64 _, .int .i64 _, .int .i64 _, .slice _ _ _, .slice _ _ _, .slice _ _ _, .slice _ _ _]) rfl rfl rfl rfl rfl ?_
  refine op_fn (caps := []) (vs := [.agg #[.int .i64 _, .int .i64 _, .int .i64 _, .int .i64 _, .int .i64 _, .slice _ _ _, .slice _ _ _, .slice _ _ _, .slice _ _ _]]) rfl rfl rfl (CheckR_ok m M AB AQ AL AW cB cQ cL cW h (RM.ext (Ext.refl _))) ?_
  rintro _ h3 E3 rfl
  refine op_pure (pv_assign (v := .int .i64 _) rfl) ?_
  refine xp_seq ?_
  refine xp_region rfl ?_
  refine op_pure (pv_move (v := .int .i64 _) rfl) ?_
  refine op_pure (pv_of (v := .bool _) rfl) ?_
  refine xp_condF rfl (rfl) ?_
  refine xp_skip ?_
  refine xp_seq ?_
  refine xp_region rfl ?_
  refine op_loadPA 0 (vs := [.int .i64 _, .int .i64 _, .int .i64 _, .int .i64 _, .int .i64 _, .slice _ _ _, .slice _ _ _, .slice _ _ _, .slice _ _ _]) rfl rfl rfl rfl rfl ?_
  refine op_loadPA 1 (vs := [.slice _ _ _, .slice _ _ _]) rfl rfl rfl rfl rfl ?_
  refine op_fn (caps := []) (vs := [.agg #[.int .i64 _, .int .i64 _, .int .i64 _, .int .i64 _, .int .i64 _, .slice _ _ _, .slice _ _ _, .slice _ _ _, .slice _ _ _], .agg #[.slice _ _ _, .slice _ _ _]]) rfl rfl rfl (checkHandR_ok m M a AB AQ AL AW HA OA cB cQ cL cW cH cO h3 (RH.ext E3) h1 h2) ?_
  rintro _ h4 E4 rfl
  refine op_pure (pv_assign (v := .int .i64 _) rfl) ?_
  refine xp_ret ?_
  refine res_list (vs := [_]) Try.results45 ⟨resV_tmp rfl rfl, trivial⟩ fun V => ?_
  exact ⟨(Ext.trans (Ext.trans E3 E4) (ext_wl V)), rfl⟩
end
end Go.Proofs.Ytlfbcimcehcomaa
/- Walks of package rod: how deep a button has to go. Conditions: as each theorem states. -/
namespace Go.Proofs.Ytlfbcimcehcomaa
open Go Go.HL Go.Proofs Go.Wx Go.Rd
section
variable [Lvl]
set_option maxRecDepth 100000
end
end Go.Proofs.Ytlfbcimcehcomaa
/- Walks: how deep buttons go. Conditions: as each theorem states. -/
namespace Go.Proofs.Ytlfbcimcehcomaa
open Go Go.HL Go.Proofs Go.Wx Go.Rd
section
variable [Lvl]
set_option maxRecDepth 100000
theorem sounds_bit {m : MachP} {a : HandP} {d : Int} {v : Nat} (hv : (v : Int) < m.levers) : (soundsM m a d).testBit v = decide (m.opn ≤ liftF m a d v) := by
  unfold soundsM liftF
  rw [maskOf_bit, decide_eq_true (by omega : v < m.levers.toNat), Bool.true_and, Int.toNat_natCast]
end
end Go.Proofs.Ytlfbcimcehcomaa
/- Walks of the reference: how far rods turn, how far levers are lifted, what sounds. Conditions: as each theorem states. -/
namespace Go.Proofs.Ytlfbcimcehcomaa
open Go Go.HL Go.Proofs Go.Wx Go.Rd
section
variable [Lvl]
set_option maxRecDepth 100000
theorem wrL_set {t : List Int} {i o : Nat} {x : Int} (ho : o = i) : wrL (tV t) o [.int .i64 x] = tV (t.set i x) := by
  subst ho
  simp [wrL, List.map_set]
theorem hasR_ok (l : List Int) (n : Int) (A : Option Addr) (c : Nat) (h : AH) (R : Row h 1 intC A l) (hl : l.length < 2 ^ 40) :
    FnT Try.prog 123 #[.slice A l.length c, .int .i64 n] h (fun v _ => v = .bool (l.contains n)) := by
  refine call_body Try.func123 rfl Try.ntmps123 rfl ?_
  refine xp_seq ?_
  refine xp_region rfl ?_
  refine op_pure (pv_assign (v := .bool _) rfl) ?_
  refine xp_seq ?_
  refine xp_seq ?_
  refine xp_region rfl ?_
  refine op_pure (pv_assign (v := .int .i64 _) rfl) ?_
  refine xp_block ?_
  refine xp_loopB [4, 5, 6, 7, 8, 9, 10, 11, 12, 13, 14, 15, 16, 17] 0 (α := Nat) (fun k => [(5, .int .i64 k)]) (fun k => _) (fun k h_k => k ≤ l.length ∧ ∀ x ∈ l.take k, x ≠ n) (fun k => l.length - k) (0) ⟨rfl, trivial⟩ (rfl) (⟨Nat.zero_le _, fun x hx => by simp at hx⟩) ?_
  rintro k T1 h_k E_k J_k
  refine goes_norm [] rfl ?_
  obtain ⟨K1, K2⟩ := J_k
  refine xp_seq ?_
  refine xp_seq ?_
  refine xp_region rfl ?_
  refine op_pure (pv_move (v := .int .i64 _) rfl) ?_
  refine op_pure (pv_move (v := .slice _ _ _) rfl) ?_
  refine op_pure (pv_len rfl rfl) ?_
  refine op_pure (pv_of (v := .bool _) rfl) ?_
  refine xp_cond rfl (fun hk => ?_) (fun hk => ?_)
  · skip
    have hkl : k < l.length := ltI hk
    obtain ⟨g, off, hA, hc⟩ := (R.ext E_k).at (by omega) hkl
    refine xp_skip ?_
    refine xp_seq ?_
    refine xp_block ?_
    refine xp_seq ?_
    refine xp_region rfl ?_
    refine op_pure (pv_move (v := .slice _ _ _) rfl) ?_
    refine op_pure (pv_move (v := .int .i64 _) rfl) ?_
    refine op_pure (pv_indexE rfl hA rfl rfl rfl (by omega) (by omega)) ?_
    refine op_load (v := .int .i64 _) rfl rfl ((hc) 0 _ rfl) ?_
    refine op_pure (pv_move (v := .int .i64 _) rfl) ?_
    refine op_pure (pv_of (v := .bool _) rfl) ?_
    refine xp_cond rfl (fun he => ?_) (fun he => ?_)
    · skip
      have he' : l[k] = n := by simpa using he
      refine xp_seq ?_
      refine xp_region rfl ?_
      refine op_pure (pv_assign (v := .bool _) rfl) ?_
      refine xp_ret ?_
      refine res_list (vs := [_]) Try.results123 ⟨resV_tmp rfl rfl, trivial⟩ fun V => ?_
      exact ⟨(Ext.trans E_k (ext_wl V)), boolE (by rw [eq_comm, List.contains_iff_mem, ← he']; exact List.getElem_mem hkl)⟩
    · skip
      have he' : l[k] ≠ n := by simpa using he
      refine xp_skip ?_
      refine xp_region rfl ?_
      refine op_pure (pv_move (v := .int .i64 _) rfl) ?_
      refine op_pure (pv_arith rfl (by omega)) ?_
      refine op_pure (pv_assign (v := .int .i64 _) rfl) ?_
      refine ⟨k + 1, ⟨rfl, trivial⟩, rfl, rfl, E_k, fun h3 E3 => ⟨hkl, by rw [take_snoc hkl]; exact mem_one K2 he'⟩, by first | omega | (dsimp only; omega), ?_⟩
      repeat (first | exact off_base _ _ _ | refine off_upd (by decide) ?_ | refine off_updL rfl ?_ | refine off_mix rfl ?_)
  · skip
    have hke : k = l.length := by have := geI hk; omega
    subst hke
    rw [List.take_length] at K2
    refine xp_exit ?_
    refine xp_seq ?_
    refine xp_region rfl ?_
    refine op_pure (pv_assign (v := .bool _) rfl) ?_
    refine xp_ret ?_
    refine res_list (vs := [_]) Try.results123 ⟨resV_tmp rfl rfl, trivial⟩ fun V => ?_
    exact ⟨(Ext.trans E_k (ext_wl V)), boolE (by rw [eq_comm, ← Bool.not_eq_true, List.contains_iff_mem]; exact fun hm => K2 n hm rfl)⟩
theorem turnsR_ok (m : MachP) (M : MOK m) (a : HandP) (F : Fit m a) (depth : Int) (hd : 0 ≤ depth ∧ depth ≤ 12) (AB AQ AL AW HA OA : Option Addr) (cB cQ cL cW cH cO : Nat) (h : AH) (RM : MachR h AB AQ AL AW m) (RH : HandR h HA OA a) :
    FnT Try.prog 106 #[machV AB AQ AL AW cB cQ cL cW m, handV HA OA cH cO a, .int .i64 depth] h (fun v h' => SlR h' 1 intC (turnsR m a depth) v) := by
  have hrd := M.rods
  have hbl := F.bl
  have hll := F.ll
  have hhl := F.hl
  have hol := F.ol
  have hle : m.rods = ((m.rods.toNat : Nat) : Int) := by omega
  refine call_body Try.func106 rfl Try.ntmps106 rfl ?_
  refine xp_seq ?_
  refine xp_region rfl ?_
  refine op_box (v := machV AB AQ AL AW cB cQ cL cW m) (cs := [_, _, _, _, _, _, _, _, _]) rfl rfl fun b2 hb2 => ?_
  refine wp_norm [_] rfl ?_
  refine op_box (v := handV HA OA cH cO a) (cs := [_, _]) rfl rfl fun b3 hb3 => ?_
  refine wp_norm [_, _] rfl ?_
  refine op_pure (pv_assign (v := .slice _ _ _) rfl) ?_
  refine xp_seq ?_
  refine xp_region rfl ?_
  refine op_pure (pv_fieldAddr rfl rfl rfl rfl 0 rfl) ?_
  refine op_loadP 0 (v := .int .i64 _) rfl rfl rfl rfl ?_
  refine op_makeSlice (len := m.rods.toNat) (cap := m.rods.toNat) (zc := [.int .i64 0]) rfl rfl hle hle rfl rfl rfl rfl rfl (by omega) (by omega) rfl fun bl hbl => ?_
  refine wp_norm [_, _, _] rfl ?_
  refine wp_norm [_, _, some (bl, .cells (tV (List.replicate m.rods.toNat 0)).toArray 3 (0, 0))] (by rw [← mk_zero]; rfl) ?_
  refine op_pure (pv_assign (v := .slice _ _ _) rfl) ?_
  refine xp_seq ?_
  refine xp_seq ?_
  refine xp_region rfl ?_
  refine op_pure (pv_assign (v := .int .i64 _) rfl) ?_
  refine xp_block ?_
  refine xp_loopL [8, 15, 16, 17, 18, 19, 20, 21, 22, 23, 24, 25, 26, 27, 28, 29, 30, 31, 32, 33] 3 (α := Nat) (fun k => [(8, .int .i64 k)]) (fun k L => L.set 2 (some (bl, .cells (tV (pressR m.buttons depth (a.buttons.take k) (List.replicate m.rods.toNat 0))).toArray 3 (0, 0)))) (fun k h_k => k ≤ a.buttons.length) (fun k => a.buttons.length - k) (0) ⟨rfl, trivial⟩ (rfl) (Nat.zero_le _) ?_
  rintro k T1 h_k E_k J_k
  refine goes_norm [_, _, _] rfl ?_
  refine xp_seq ?_
  refine xp_seq ?_
  refine xp_region rfl ?_
  refine op_pure (pv_move (v := .int .i64 _) rfl) ?_
  refine op_pure (pv_fieldAddr rfl rfl rfl rfl 0 rfl) ?_
  refine op_loadP 1 (v := .slice _ _ _) rfl rfl rfl rfl ?_
  refine op_pure (pv_len rfl rfl) ?_
  refine op_pure (pv_of (v := .bool _) rfl) ?_
  refine xp_cond rfl (fun hk => ?_) (fun hk => ?_)
  · skip
    have hkl : k < a.buttons.length := ltI hk
    obtain ⟨g, off, hA, hc⟩ := (RH.b.ext E_k).at (by omega) hkl
    have hbk := F.hb _ (List.getElem_mem hkl)
    have hbk2 : a.buttons[k].toNat < m.buttons.length := by omega
    obtain ⟨g2, off2, hA2, hc2⟩ := (RM.b.ext E_k).at (by omega) hbk2
    have hbt := M.btn _ (List.getElem_mem hbk2)
    have hP6 : (tV (pressR m.buttons depth (a.buttons.take k) (List.replicate m.rods.toNat 0))).length = m.rods.toNat := by rw [List.length_map, pressR_len, List.length_replicate]
    refine xp_skip ?_
    refine xp_seq ?_
    refine xp_block ?_
    refine xp_dw [] rfl rfl rfl ?_
    refine dw_pure (i := 0) rfl (by decide +kernel) (pv_move (v := .slice _ _ _) rfl) ?_
    refine dw_pure (i := 1) rfl (by decide +kernel) (pv_fieldAddr rfl rfl rfl rfl 5 rfl) ?_
    refine dw_load (i := 2) rfl (by decide +kernel) ?_
    refine op_loadP 0 (v := .slice _ _ _) rfl rfl rfl rfl ?_
    refine dw_pure (i := 3) rfl (by decide +kernel) (pv_fieldAddr rfl rfl rfl rfl 0 rfl) ?_
    refine dw_load (i := 4) rfl (by decide +kernel) ?_
    refine op_loadP 1 (v := .slice _ _ _) rfl rfl rfl rfl ?_
    refine dw_pure (i := 5) rfl (by decide +kernel) (pv_move (v := .int .i64 _) rfl) ?_
    refine dw_pure (i := 6) rfl (by decide +kernel) (pv_indexE rfl hA rfl rfl rfl (by omega) (by omega)) ?_
    refine dw_load (i := 7) rfl (by decide +kernel) ?_
    refine op_load (v := .int .i64 _) rfl rfl ((hc) 0 _ rfl) ?_
    refine dw_pure (i := 8) rfl (by decide +kernel) (pv_indexE rfl hA2 rfl rfl rfl (by omega) (by omega)) ?_
    refine dw_load (i := 9) rfl (by decide +kernel) ?_
    refine op_load (v := .int .i64 _) rfl rfl ((hc2) 0 _ rfl) ?_
    refine dw_pure (i := 10) rfl (by decide +kernel) (pv_move (v := .int .i64 _) rfl) ?_
    refine dw_pure (i := 11) rfl (by decide +kernel) (pv_index (m := 1) rfl rfl rfl rfl (by omega) (by omega)) ?_
    refine dw_last (i := 12) rfl (by decide +kernel) (by decide +kernel) ?_
    refine op_storeP 2 (m := 1) (v := .int .i64 _) (vs := [.int .i64 depth]) (c' := tV (pressR m.buttons depth (a.buttons.take (k + 1)) (List.replicate m.rods.toNat 0))) rfl rfl rfl rfl rfl rfl (Nat.ble_eq_true_of_le (by rw [hP6]; omega)) rfl (by rw [pressR_take hkl, getD_get hbk2]; exact wrL_set (by omega)) ?_
    refine dw_norm [_, _, _] rfl ?_
    refine dw_end rfl ?_
    refine xp_region rfl ?_
    refine op_pure (pv_move (v := .int .i64 _) rfl) ?_
    refine op_pure (pv_arith rfl (by omega)) ?_
    refine op_pure (pv_assign (v := .int .i64 _) rfl) ?_
    refine ⟨k + 1, ⟨rfl, trivial⟩, rfl, rfl, E_k, fun h3 E3 => hkl, by first | omega | (dsimp only; omega), ?_⟩
    repeat (first | exact off_base _ _ _ | refine off_upd (by decide) ?_ | refine off_updL rfl ?_ | refine off_mix rfl ?_)
  · skip
    have hke : k = a.buttons.length := by have := geI hk; omega
    subst hke
    rw [List.take_length]
    refine xp_exit ?_
    refine xp_seq ?_
    refine xp_seq ?_
    refine xp_region rfl ?_
    refine op_pure (pv_assign (v := .int .i64 _) rfl) ?_
    refine xp_block ?_
    refine xp_loopL [9, 10, 11, 34, 35, 36, 37, 38, 39, 40, 41, 42, 43, 44, 45, 46, 47, 48, 49, 50, 51, 52, 53, 54, 55, 56, 57, 58, 59, 60, 61, 62, 63, 64, 65, 66, 67, 68, 69, 70, 71, 72, 73, 74, 75, 76, 77, 78, 79] 3 (α := Nat) (fun r => [(9, .int .i64 r)]) (fun r L => L.set 2 (some (bl, .cells (tV (sweepN m a (startR m a depth) r)).toArray 3 (0, 0)))) (fun r h_r => r ≤ m.rods.toNat) (fun r => m.rods.toNat - r) (0) ⟨rfl, trivial⟩ (rfl) (Nat.zero_le _) ?_
    rintro r T2 h_r E_r J_r
    refine goes_norm [_, _, _] rfl ?_
    refine xp_seq ?_
    refine xp_seq ?_
    refine xp_region rfl ?_
    refine op_pure (pv_move (v := .int .i64 _) rfl) ?_
    refine op_pure (pv_fieldAddr rfl rfl rfl rfl 0 rfl) ?_
    refine op_loadP 0 (v := .int .i64 _) rfl rfl rfl rfl ?_
    refine op_pure (pv_of (v := .bool _) rfl) ?_
    refine xp_cond rfl (fun hr => ?_) (fun hr => ?_)
    · skip
      have hrl : r < m.rods.toNat := by have := of_decide_eq_true hr; omega
      obtain ⟨P, hP⟩ : ∃ P, P = sweepN m a (startR m a depth) r := ⟨_, rfl⟩
      have hSt : sweepN m a (startR m a depth) (r + 1) = linkM a.on m.links P := by rw [hP]; rfl
      have hP6 : P.length = m.rods.toNat := by rw [hP, sweep_len, start_len]
      have hPB : Bd depth P := by rw [hP]; exact turnsR_bd F hd.1 r
      rw [← hP]
      refine xp_skip ?_
      refine xp_seq ?_
      refine xp_block ?_
      refine xp_seq ?_
      refine xp_region rfl ?_
      refine op_pure (pv_assign (v := .int .i64 _) rfl) ?_
      refine xp_block ?_
      refine xp_loopL [10, 11, 40, 41, 42, 43, 44, 45, 46, 47, 48, 49, 50, 51, 52, 53, 54, 55, 56, 57, 58, 59, 60, 61, 62, 63, 64, 65, 66, 67, 68, 69, 70, 71, 72, 73, 74, 75, 76, 77, 78, 79] 3 (α := Nat) (fun i => [(10, .int .i64 i)]) (fun i L => L.set 2 (some (bl, .cells (tV (linkM a.on (m.links.take i) P)).toArray 3 (0, 0)))) (fun i h_i => i ≤ m.links.length) (fun i => m.links.length - i) (0) ⟨rfl, trivial⟩ (rfl) (Nat.zero_le _) ?_
      rintro i T3 h_i E_i J_i
      refine goes_norm [_, _, _] rfl ?_
      refine xp_seq ?_
      refine xp_seq ?_
      refine xp_region rfl ?_
      refine op_pure (pv_move (v := .int .i64 _) rfl) ?_
      refine op_pure (pv_fieldAddr rfl rfl rfl rfl 7 rfl) ?_
      refine op_loadP 0 (v := .slice _ _ _) rfl rfl rfl rfl ?_
      refine op_pure (pv_len rfl rfl) ?_
      refine op_pure (pv_of (v := .bool _) rfl) ?_
      refine xp_cond rfl (fun hi => ?_) (fun hi => ?_)
      · skip
        have hil : i < m.links.length := ltI hi
        obtain ⟨g, off, hA, hc⟩ := (RM.l.ext (Ext.trans (Ext.trans E_k E_r) E_i)).at (by omega) hil
        obtain ⟨⟨f0, f1⟩, ⟨t0, t1⟩, _, _, g0, g1⟩ := M.link _ (List.getElem_mem hil)
        have mtr := M.travel
        obtain ⟨Z, hZ⟩ : ∃ Z, Z = linkM a.on (m.links.take i) P := ⟨_, rfl⟩
        have hZ6 : Z.length = m.rods.toNat := by rw [hZ, linkR_len, hP6]
        have hT6 : (tV Z).length = m.rods.toNat := by rw [List.length_map, hZ6]
        have hZB : Bd depth Z := by rw [hZ]; exact link_bd _ (fun l hl => F.lag l (take_mem hl)) hPB
        have z1 := hZB m.links[i].frm.toNat
        have z2 := hZB m.links[i].to.toNat
        have hNext := linkM_take (on := a.on) (t := P) hil
        rw [← hZ] at hNext ⊢
        refine xp_skip ?_
        refine xp_seq ?_
        refine xp_block ?_
        refine xp_seq ?_
        refine xp_region rfl ?_
        refine op_pure (pv_fieldAddr rfl rfl rfl rfl 7 rfl) ?_
        refine op_loadP 0 (v := .slice _ _ _) rfl rfl rfl rfl ?_
        refine op_pure (pv_move (v := .int .i64 _) rfl) ?_
        refine op_pure (pv_indexE rfl hA rfl rfl rfl (by omega) (by omega)) ?_
        refine op_loadA rfl rfl rfl rfl (hc) ?_
        refine op_alloc (cs := [_, _, _, _]) rfl rfl fun b11 hb11 => ?_
        refine wp_norm [_, _, _, _] rfl ?_
        refine op_storeP 3 (v := .agg #[.int .i64 _, .int .i64 _, .int .i64 _, .int .i64 _]) (vs := [_, _, _, _]) (c' := [_, _, _, _]) rfl rfl rfl rfl rfl rfl rfl rfl rfl ?_
        refine wp_norm [_, _, _, _] rfl ?_
        refine xp_cutB [52, 53, 54, 55, 56, 57, 58, 59, 60, 61] 4 (α := Unit) (fun u => [(61, .bool (active a.on m.links[i]))]) (fun u L => L) (fun u h_u => True) ?_ ?_
        · skip
          rcases Bool.eq_false_or_eq_true (decide (m.links[i].reg < 0)) with hr | hr
          · skip
            refine xp_region rfl ?_
            refine op_pure (pv_fieldAddr rfl rfl rfl rfl 2 rfl) ?_
            refine op_loadP 3 (v := .int .i64 _) rfl rfl rfl rfl ?_
            refine op_pure (pv_of (v := .bool _) rfl) ?_
            refine op_pure (pv_move (v := .bool _) rfl) ?_
            refine guard_no rfl hr ?_
            refine guard_no rfl hr ?_
            refine guard_no rfl hr ?_
            refine guard_no rfl hr ?_
            refine guard_no rfl hr ?_
            refine op_pure (pv_pickT rfl hr (v := .bool _) rfl) ?_
            refine ⟨(), ⟨(by show Value.bool _ = _; unfold active; rw [hr]; rfl), trivial⟩, rfl, rfl, (Ext.refl _), fun h3 E3 => by first | trivial | omega | (refine ⟨?_, ?_⟩ <;> omega), ?_⟩
            repeat (first | exact off_refl _ _ | exact off_base _ _ _ | refine off_upd (by decide) ?_ | refine off_updL rfl ?_ | refine off_mix rfl ?_)
          · skip
            refine xp_region rfl ?_
            refine op_pure (pv_fieldAddr rfl rfl rfl rfl 2 rfl) ?_
            refine op_loadP 3 (v := .int .i64 _) rfl rfl rfl rfl ?_
            refine op_pure (pv_of (v := .bool _) rfl) ?_
            refine op_pure (pv_move (v := .bool _) rfl) ?_
            refine guard_yes rfl hr ?_
            refine op_pure (pv_fieldAddr rfl rfl rfl rfl 1 rfl) ?_
            refine guard_yes rfl hr ?_
            refine op_loadP 1 (v := .slice _ _ _) rfl rfl rfl rfl ?_
            refine guard_yes rfl hr ?_
            refine op_pure (pv_fieldAddr rfl rfl rfl rfl 2 rfl) ?_
            refine guard_yes rfl hr ?_
            refine op_loadP 3 (v := .int .i64 _) rfl rfl rfl rfl ?_
            refine guard_yes rfl hr ?_
            refine op_fn (caps := []) (vs := [.slice _ _ _, .int .i64 _]) rfl rfl rfl (hasR_ok a.on m.links[i].reg OA cO h_i (RH.o.ext (Ext.trans (Ext.trans E_k E_r) E_i)) (by omega)) ?_
            rintro _ h1 E1 rfl
            refine op_pure (pv_pickF rfl hr (v := .bool _) rfl) ?_
            refine ⟨(), ⟨(by show Value.bool _ = _; unfold active; rw [hr]; simp), trivial⟩, rfl, rfl, E1, fun h3 E3 => by first | trivial | omega | (refine ⟨?_, ?_⟩ <;> omega), ?_⟩
            repeat (first | exact off_refl _ _ | exact off_base _ _ _ | refine off_upd (by decide) ?_ | refine off_updL rfl ?_ | refine off_mix rfl ?_)
        · rintro u T4 h_u E_u J_u
          refine goes_norm [_, _, _, _] rfl ?_
          refine xp_cond rfl (fun hact => ?_) (fun hact => ?_)
          · skip
            rw [if_pos hact] at hNext
            refine xp_dw [] rfl rfl rfl ?_
            refine dw_pure (i := 0) rfl (by decide +kernel) (pv_move (v := .slice _ _ _) rfl) ?_
            refine dw_pure (i := 1) rfl (by decide +kernel) (pv_fieldAddr rfl rfl rfl rfl 1 rfl) ?_
            refine dw_load (i := 2) rfl (by decide +kernel) ?_
            refine op_loadP 3 (v := .int .i64 _) rfl rfl rfl rfl ?_
            refine dw_pure (i := 3) rfl (by decide +kernel) (pv_move (v := .slice _ _ _) rfl) ?_
            refine dw_pure (i := 4) rfl (by decide +kernel) (pv_fieldAddr rfl rfl rfl rfl 1 rfl) ?_
            refine dw_load (i := 5) rfl (by decide +kernel) ?_
            refine op_loadP 3 (v := .int .i64 _) rfl rfl rfl rfl ?_
            refine dw_pure (i := 6) rfl (by decide +kernel) (pv_index (m := 1) rfl rfl rfl rfl (by omega) (by omega)) ?_
            refine dw_load (i := 7) rfl (by decide +kernel) ?_
            refine op_loadP 2 (v := .int .i64 (Z.getD m.links[i].to.toNat 0)) rfl rfl rfl (tV_at (by omega) (by omega)) ?_
            refine dw_pure (i := 8) rfl (by decide +kernel) (pv_move (v := .slice _ _ _) rfl) ?_
            refine dw_pure (i := 9) rfl (by decide +kernel) (pv_fieldAddr rfl rfl rfl rfl 0 rfl) ?_
            refine dw_load (i := 10) rfl (by decide +kernel) ?_
            refine op_loadP 3 (v := .int .i64 _) rfl rfl rfl rfl ?_
            refine dw_pure (i := 11) rfl (by decide +kernel) (pv_index (m := 1) rfl rfl rfl rfl (by omega) (by omega)) ?_
            refine dw_load (i := 12) rfl (by decide +kernel) ?_
            refine op_loadP 2 (v := .int .i64 (Z.getD m.links[i].frm.toNat 0)) rfl rfl rfl (tV_at (by omega) (by omega)) ?_
            refine dw_pure (i := 13) rfl (by decide +kernel) (pv_fieldAddr rfl rfl rfl rfl 3 rfl) ?_
            refine dw_load (i := 14) rfl (by decide +kernel) ?_
            refine op_loadP 3 (v := .int .i64 _) rfl rfl rfl rfl ?_
            refine dw_pure (i := 15) rfl (by decide +kernel) (pv_arith rfl (by omega)) ?_
            refine dw_pure (i := 16) rfl (by decide +kernel) (pv_max rfl rfl) ?_
            refine dw_pure (i := 17) rfl (by decide +kernel) (pv_index (m := 1) rfl rfl rfl rfl (by omega) (by omega)) ?_
            refine dw_last (i := 18) rfl (by decide +kernel) (by decide +kernel) ?_
            refine op_storeP 2 (m := 1) (v := .int .i64 _) (vs := [.int .i64 (max (Z.getD m.links[i].to.toNat 0) (Z.getD m.links[i].frm.toNat 0 - m.links[i].lag))]) (c' := tV (linkM a.on (m.links.take (i + 1)) P)) rfl rfl rfl rfl rfl rfl (Nat.ble_eq_true_of_le (by rw [hT6]; omega)) rfl (by rw [hNext]; exact wrL_rise (by omega) rfl) ?_
            refine dw_norm [_, _, _, _] rfl ?_
            refine dw_end rfl ?_
            refine xp_region rfl ?_
            refine op_pure (pv_move (v := .int .i64 _) rfl) ?_
            refine op_pure (pv_arith rfl (by omega)) ?_
            refine op_pure (pv_assign (v := .int .i64 _) rfl) ?_
            refine ⟨i + 1, ⟨rfl, trivial⟩, rfl, rfl, (Ext.trans E_i E_u), fun h3 E3 => hil, by first | omega | (dsimp only; omega), ?_⟩
            repeat (first | exact off_base _ _ _ | refine off_upd (by decide) ?_ | refine off_updL rfl ?_ | refine off_mix rfl ?_)
          · skip
            rw [if_neg (by rw [hact]; decide)] at hNext
            refine xp_skip ?_
            refine xp_region rfl ?_
            refine op_pure (pv_move (v := .int .i64 _) rfl) ?_
            refine op_pure (pv_arith rfl (by omega)) ?_
            refine op_pure (pv_assign (v := .int .i64 _) rfl) ?_
            refine ⟨i + 1, ⟨rfl, trivial⟩, rfl, by rw [hNext]; rfl, (Ext.trans E_i E_u), fun h3 E3 => hil, by first | omega | (dsimp only; omega), ?_⟩
            repeat (first | exact off_base _ _ _ | refine off_upd (by decide) ?_ | refine off_updL rfl ?_ | refine off_mix rfl ?_)
      · skip
        have hie : i = m.links.length := by have := geI hi; omega
        subst hie
        rw [List.take_length, ← hSt]
        refine xp_exit ?_
        refine xp_region rfl ?_
        refine op_pure (pv_move (v := .int .i64 _) rfl) ?_
        refine op_pure (pv_arith rfl (by omega)) ?_
        refine op_pure (pv_assign (v := .int .i64 _) rfl) ?_
        refine ⟨r + 1, ⟨rfl, trivial⟩, rfl, rfl, (Ext.trans E_r E_i), fun h3 E3 => hrl, by first | omega | (dsimp only; omega), ?_⟩
        repeat (first | exact off_base _ _ _ | refine off_upd (by decide) ?_ | refine off_updL rfl ?_ | refine off_mix rfl ?_)
    · skip
      have hre : r = m.rods.toNat := by have := of_decide_eq_false hr; omega
      subst hre
      refine xp_exit ?_
      refine xp_seq ?_
      refine xp_region rfl ?_
      refine op_pure (pv_move (v := .slice _ _ _) rfl) ?_
      refine op_pure (pv_assign (v := .slice _ _ _) rfl) ?_
      refine xp_ret ?_
      refine res_list (vs := [_]) Try.results106 ⟨resV_tmp rfl rfl, trivial⟩ fun V => ?_
      exact ⟨(Ext.trans (Ext.trans E_k E_r) (ext_wl V)), slr_own (l := turnsR m a depth) V (i := 2) rfl (turnsR_len m a depth)⟩
theorem liftsR_ok (m : MachP) (M : MOK m) (a : HandP) (F : Fit m a) (depth : Int) (hd : 0 ≤ depth ∧ depth ≤ 12) (AB AQ AL AW HA OA : Option Addr) (cB cQ cL cW cH cO : Nat) (h : AH) (RM : MachR h AB AQ AL AW m) (RH : HandR h HA OA a) :
    FnT Try.prog 80 #[machV AB AQ AL AW cB cQ cL cW m, handV HA OA cH cO a, .int .i64 depth] h (fun v h' => SlR h' 1 intC (liftedM m (turnsR m a depth)) v) := by
  have hlv := M.levers
  have hpl := M.pl
  have hrd := M.rods
  have mtr := M.travel
  have hle : m.levers = ((m.levers.toNat : Nat) : Int) := by omega
  obtain ⟨t, ht⟩ : ∃ t, t = turnsR m a depth := ⟨_, rfl⟩
  have htl : t.length = m.rods.toNat := by rw [ht, turnsR_len]
  have htb : Bd depth t := by rw [ht]; exact turnsR_bd F hd.1 _
  have L1 := turnsR_ok m M a F depth hd AB AQ AL AW HA OA cB cQ cL cW cH cO
  rw [← ht] at L1 ⊢
  refine call_body Try.func80 rfl Try.ntmps80 rfl ?_
  refine xp_seq ?_
  refine xp_region rfl ?_
  refine op_box (v := machV AB AQ AL AW cB cQ cL cW m) (cs := [_, _, _, _, _, _, _, _, _]) rfl rfl fun b2 hb2 => ?_
  refine wp_norm [_] rfl ?_
  refine op_box (v := handV HA OA cH cO a) (cs := [_, _]) rfl rfl fun b3 hb3 => ?_
  refine wp_norm [_, _] rfl ?_
  refine op_pure (pv_assign (v := .slice _ _ _) rfl) ?_
  refine xp_seq ?_
  refine xp_region rfl ?_
  refine op_pure (pv_fieldAddr rfl rfl rfl rfl 1 rfl) ?_
  refine op_loadP 0 (v := .int .i64 _) rfl rfl rfl rfl ?_
  refine op_makeSlice (len := m.levers.toNat) (cap := m.levers.toNat) (zc := [.int .i64 0]) rfl rfl hle hle rfl rfl rfl rfl rfl (by omega) (by omega) rfl fun bl hbl => ?_
  refine wp_norm [_, _, _] rfl ?_
  refine wp_norm [_, _, some (bl, .cells (tV (List.replicate m.levers.toNat 0)).toArray 3 (0, 0))] (by rw [← mk_zero]; rfl) ?_
  refine op_pure (pv_assign (v := .slice _ _ _) rfl) ?_
  refine xp_seq ?_
  refine xp_region rfl ?_
  refine op_loadPA 0 (vs := [.int .i64 _, .int .i64 _, .int .i64 _, .int .i64 _, .int .i64 _, .slice _ _ _, .slice _ _ _, .slice _ _ _, .slice _ _ _]) rfl rfl rfl rfl rfl ?_
  refine op_loadPA 1 (vs := [.slice _ _ _, .slice _ _ _]) rfl rfl rfl rfl rfl ?_
  refine op_pure (pv_move (v := .int .i64 _) rfl) ?_
  refine op_fn (caps := []) (vs := [.agg #[.int .i64 _, .int .i64 _, .int .i64 _, .int .i64 _, .int .i64 _, .slice _ _ _, .slice _ _ _, .slice _ _ _, .slice _ _ _], .agg #[.slice _ _ _, .slice _ _ _], .int .i64 _]) rfl rfl rfl (L1 h (RM.ext (Ext.refl _)) (RH.ext (Ext.refl _))) ?_
  rintro _ h1 E1 ⟨TA, cT, rfl, RT⟩
  rw [htl]
  refine op_pure (pv_assign (v := .slice _ _ _) rfl) ?_
  refine xp_seq ?_
  refine xp_seq ?_
  refine xp_region rfl ?_
  refine op_pure (pv_assign (v := .int .i64 _) rfl) ?_
  refine xp_block ?_
  refine xp_loopL [9, 10, 18, 19, 20, 21, 22, 23, 24, 25, 26, 27, 28, 29, 30, 31, 32, 33, 34, 35, 36, 37, 38, 39, 40, 41, 42, 43, 44, 45, 46, 47] 3 (α := Nat) (fun k => [(9, .int .i64 k)]) (fun k L => L.set 2 (some (bl, .cells (tV ((m.pins.take k).foldl (pinS t) (List.replicate m.levers.toNat 0))).toArray 3 (0, 0)))) (fun k h_k => k ≤ m.pins.length) (fun k => m.pins.length - k) (0) ⟨rfl, trivial⟩ (rfl) (Nat.zero_le _) ?_
  rintro k T1 h_k E_k J_k
  refine goes_norm [_, _, _] rfl ?_
  refine xp_seq ?_
  refine xp_seq ?_
  refine xp_region rfl ?_
  refine op_pure (pv_move (v := .int .i64 _) rfl) ?_
  refine op_pure (pv_fieldAddr rfl rfl rfl rfl 6 rfl) ?_
  refine op_loadP 0 (v := .slice _ _ _) rfl rfl rfl rfl ?_
  refine op_pure (pv_len rfl rfl) ?_
  refine op_pure (pv_of (v := .bool _) rfl) ?_
  refine xp_cond rfl (fun hk => ?_) (fun hk => ?_)
  · skip
    have hkl : k < m.pins.length := ltI hk
    obtain ⟨g, off, hA, hc⟩ := (RM.q.ext (Ext.trans E1 E_k)).at (by omega) hkl
    obtain ⟨⟨f0, f1⟩, ⟨t0, t1⟩, g0, g1⟩ := M.pin _ (List.getElem_mem hkl)
    have hrl : m.pins[k].rod.toNat < t.length := by omega
    obtain ⟨g2, off2, hA2, hc2⟩ := (RT.ext E_k).at (by omega) hrl
    obtain ⟨Z, hZ⟩ : ∃ Z, Z = (m.pins.take k).foldl (pinS t) (List.replicate m.levers.toNat 0) := ⟨_, rfl⟩
    have hZl : Z.length = m.levers.toNat := by rw [hZ, pins_len, List.length_replicate]
    have hZV : (tV Z).length = m.levers.toNat := by rw [List.length_map, hZl]
    have hNext := pins_take (t := t) (l0 := List.replicate m.levers.toNat 0) hkl
    have z1 := htb m.pins[k].rod.toNat
    have z2 : t.getD m.pins[k].rod.toNat 0 = t[m.pins[k].rod.toNat] := getD_get hrl
    rw [z2] at z1
    rw [← hZ] at hNext ⊢
    refine xp_skip ?_
    refine xp_seq ?_
    refine xp_block ?_
    refine xp_seq ?_
    refine xp_region rfl ?_
    refine op_pure (pv_fieldAddr rfl rfl rfl rfl 6 rfl) ?_
    refine op_loadP 0 (v := .slice _ _ _) rfl rfl rfl rfl ?_
    refine op_pure (pv_move (v := .int .i64 _) rfl) ?_
    refine op_pure (pv_indexE rfl hA rfl rfl rfl (by omega) (by omega)) ?_
    refine op_loadA rfl rfl rfl rfl (hc) ?_
    refine op_alloc (cs := [_, _, _]) rfl rfl fun b10 hb10 => ?_
    refine wp_norm [_, _, _, _] rfl ?_
    refine op_storeP 3 (v := .agg #[.int .i64 _, .int .i64 _, .int .i64 _]) (vs := [_, _, _]) (c' := [_, _, _]) rfl rfl rfl rfl rfl rfl rfl rfl rfl ?_
    refine wp_norm [_, _, _, _] rfl ?_
    refine xp_dw [] rfl rfl rfl ?_
    refine dw_pure (i := 0) rfl (by decide +kernel) (pv_move (v := .slice _ _ _) rfl) ?_
    refine dw_pure (i := 1) rfl (by decide +kernel) (pv_fieldAddr rfl rfl rfl rfl 1 rfl) ?_
    refine dw_load (i := 2) rfl (by decide +kernel) ?_
    refine op_loadP 3 (v := .int .i64 _) rfl rfl rfl rfl ?_
    refine dw_pure (i := 3) rfl (by decide +kernel) (pv_move (v := .slice _ _ _) rfl) ?_
    refine dw_pure (i := 4) rfl (by decide +kernel) (pv_fieldAddr rfl rfl rfl rfl 1 rfl) ?_
    refine dw_load (i := 5) rfl (by decide +kernel) ?_
    refine op_loadP 3 (v := .int .i64 _) rfl rfl rfl rfl ?_
    refine dw_pure (i := 6) rfl (by decide +kernel) (pv_index (m := 1) rfl rfl rfl rfl (by omega) (by omega)) ?_
    refine dw_load (i := 7) rfl (by decide +kernel) ?_
    refine op_loadP 2 (v := .int .i64 (Z.getD m.pins[k].lever.toNat 0)) rfl rfl rfl (tV_at (by omega) (by omega)) ?_
    refine dw_pure (i := 8) rfl (by decide +kernel) (pv_move (v := .slice _ _ _) rfl) ?_
    refine dw_pure (i := 9) rfl (by decide +kernel) (pv_fieldAddr rfl rfl rfl rfl 0 rfl) ?_
    refine dw_load (i := 10) rfl (by decide +kernel) ?_
    refine op_loadP 3 (v := .int .i64 _) rfl rfl rfl rfl ?_
    refine dw_pure (i := 11) rfl (by decide +kernel) (pv_indexE rfl hA2 rfl rfl rfl (by omega) (by omega)) ?_
    refine dw_load (i := 12) rfl (by decide +kernel) ?_
    refine op_load (v := .int .i64 _) rfl rfl ((hc2) 0 _ rfl) ?_
    refine dw_pure (i := 13) rfl (by decide +kernel) (pv_fieldAddr rfl rfl rfl rfl 2 rfl) ?_
    refine dw_load (i := 14) rfl (by decide +kernel) ?_
    refine op_loadP 3 (v := .int .i64 _) rfl rfl rfl rfl ?_
    refine dw_pure (i := 15) rfl (by decide +kernel) (pv_arith rfl (by omega)) ?_
    refine dw_pure (i := 16) rfl (by decide +kernel) (pv_max rfl rfl) ?_
    refine dw_pure (i := 17) rfl (by decide +kernel) (pv_index (m := 1) rfl rfl rfl rfl (by omega) (by omega)) ?_
    refine dw_last (i := 18) rfl (by decide +kernel) (by decide +kernel) ?_
    refine op_storeP 2 (m := 1) (v := .int .i64 _) (vs := [.int .i64 (max (Z.getD m.pins[k].lever.toNat 0) (t[m.pins[k].rod.toNat] - m.pins[k].lag))]) (c' := tV ((m.pins.take (k + 1)).foldl (pinS t) (List.replicate m.levers.toNat 0))) rfl rfl rfl rfl rfl rfl (Nat.ble_eq_true_of_le (by rw [hZV]; omega)) rfl (by rw [hNext, pinS, z2]; exact wrL_rise (by omega) rfl) ?_
    refine dw_norm [_, _, _, _] rfl ?_
    refine dw_end rfl ?_
    refine xp_region rfl ?_
    refine op_pure (pv_move (v := .int .i64 _) rfl) ?_
    refine op_pure (pv_arith rfl (by omega)) ?_
    refine op_pure (pv_assign (v := .int .i64 _) rfl) ?_
    refine ⟨k + 1, ⟨rfl, trivial⟩, rfl, rfl, E_k, fun h3 E3 => hkl, by first | omega | (dsimp only; omega), ?_⟩
    repeat (first | exact off_base _ _ _ | refine off_upd (by decide) ?_ | refine off_updL rfl ?_ | refine off_mix rfl ?_)
  · skip
    have hke : k = m.pins.length := by have := geI hk; omega
    subst hke
    rw [List.take_length]
    refine xp_exit ?_
    refine xp_seq ?_
    refine xp_region rfl ?_
    refine op_pure (pv_move (v := .slice _ _ _) rfl) ?_
    refine op_pure (pv_assign (v := .slice _ _ _) rfl) ?_
    refine xp_ret ?_
    refine res_list (vs := [_]) Try.results80 ⟨resV_tmp rfl rfl, trivial⟩ fun V => ?_
    exact ⟨(Ext.trans (Ext.trans E1 E_k) (ext_wl V)), slr_own (l := liftedM m t) V (i := 2) rfl (lifted_len m t)⟩
theorem listN_stop {x n : Nat} (hx : x < 2 ^ n) : ∀ k, listN x (n + k) = listN x n
  | 0 => rfl
  | k + 1 => by
    rw [← Nat.add_assoc, listN_succ, if_neg, listN_stop hx k]
    rw [Nat.testBit_lt_two_pow (Nat.lt_of_lt_of_le hx (Nat.pow_le_pow_right (by omega) (by omega)))]
    decide
theorem soundsR_ok (m : MachP) (M : MOK m) (a : HandP) (F : Fit m a) (AB AQ AL AW HA OA : Option Addr) (cB cQ cL cW cH cO : Nat) (h : AH) (RM : MachR h AB AQ AL AW m) (RH : HandR h HA OA a) :
    FnT Try.prog 46 #[machV AB AQ AL AW cB cQ cL cW m, handV HA OA cH cO a] h (fun v h' => SlR h' 1 intC (listN (soundsM m a m.travel) 6) v) := by
  have hlv := M.levers
  have mtr := M.travel
  have sl := sounds_lt m a m.travel
  have L1 := liftsR_ok m M a F m.travel (by omega) AB AQ AL AW HA OA cB cQ cL cW cH cO
  rw [liftsR M F] at L1
  obtain ⟨t, ht⟩ : ∃ t, t = liftedM m (turnedM m a m.travel) := ⟨_, rfl⟩
  have htl : t.length = m.levers.toNat := by rw [ht, lifted_len]
  obtain ⟨s, hs⟩ : ∃ s, s = soundsM m a m.travel := ⟨_, rfl⟩
  have hb : ∀ k : Nat, (k : Int) < m.levers → s.testBit k = decide (m.opn ≤ t.getD k 0) := fun k hk => by rw [hs, ht]; exact sounds_bit hk
  rw [← ht] at L1
  rw [← hs] at sl ⊢
  refine call_body Try.func46 rfl Try.ntmps46 rfl ?_
  refine xp_seq ?_
  refine xp_region rfl ?_
  refine op_box (v := .agg #[.int .i64 _, .int .i64 _, .int .i64 _, .int .i64 _, .int .i64 _, .slice _ _ _, .slice _ _ _, .slice _ _ _, .slice _ _ _]) (cs := [_, _, _, _, _, _, _, _, _]) rfl rfl fun b2 hb2 => ?_
  refine wp_norm [_] rfl ?_
  refine op_box (v := .agg #[.slice _ _ _, .slice _ _ _]) (cs := [_, _]) rfl rfl fun b3 hb3 => ?_
  refine wp_norm [_, _] rfl ?_
  refine op_pure (pv_assign (v := .slice _ _ _) rfl) ?_
  refine xp_seq ?_
  refine xp_region rfl ?_
  refine op_loadPA 0 (vs := [.int .i64 _, .int .i64 _, .int .i64 _, .int .i64 _, .int .i64 _, .slice _ _ _, .slice _ _ _, .slice _ _ _, .slice _ _ _]) rfl rfl rfl rfl rfl ?_
  refine op_loadPA 1 (vs := [.slice _ _ _, .slice _ _ _]) rfl rfl rfl rfl rfl ?_
  refine op_pure (pv_fieldAddr rfl rfl rfl rfl 3 rfl) ?_
  refine op_loadP 0 (v := .int .i64 _) rfl rfl rfl rfl ?_
  refine op_fn (caps := []) (vs := [.agg #[.int .i64 _, .int .i64 _, .int .i64 _, .int .i64 _, .int .i64 _, .slice _ _ _, .slice _ _ _, .slice _ _ _, .slice _ _ _], .agg #[.slice _ _ _, .slice _ _ _], .int .i64 _]) rfl rfl rfl (L1 h (RM.ext (Ext.refl _)) (RH.ext (Ext.refl _))) ?_
  rintro _ h1 E1 ⟨TA, cT, rfl, RT⟩
  refine op_pure (pv_assign (v := .slice _ _ _) rfl) ?_
  refine goes_more ?_
  refine goes_norm [_, _, _] rfl ?_
  refine xp_seq ?_
  refine xp_region rfl ?_
  refine op_pure (pv_assign (v := .slice _ _ _) rfl) ?_
  refine xp_seq ?_
  refine xp_seq ?_
  refine xp_region rfl ?_
  refine op_pure (pv_assign (v := .int .i64 _) rfl) ?_
  refine xp_block ?_
  refine xp_loopL [6, 7, 13, 14, 15, 16, 17, 18, 19, 20, 21, 22, 23, 24, 25, 26, 27, 28, 29] 3 (α := Nat × Acc) (fun ⟨k, a⟩ => [(7, .int .i64 k), (6, .slice a.A a.n a.c)]) (fun ⟨k, a⟩ L => L.set 2 (a.p)) (fun ⟨k, a⟩ h_k => k ≤ t.length ∧ AccR 3 1 ((listN s k).flatMap intC) a) (fun ⟨k, a⟩ => t.length - k) ((0, acc0)) ⟨rfl, rfl, trivial⟩ (rfl) (⟨Nat.zero_le _, accR0⟩) ?_
  rintro ⟨k, a⟩ T1 h_k E_k J_k
  refine goes_norm [_, _, _] rfl ?_
  obtain ⟨K1, K2⟩ := J_k
  refine xp_seq ?_
  refine xp_seq ?_
  refine xp_region rfl ?_
  refine op_pure (pv_move (v := .int .i64 _) rfl) ?_
  refine op_pure (pv_move (v := .slice _ _ _) rfl) ?_
  refine op_pure (pv_len rfl rfl) ?_
  refine op_pure (pv_of (v := .bool _) rfl) ?_
  refine xp_cond rfl (fun hk => ?_) (fun hk => ?_)
  · skip
    have hkl : k < t.length := ltI hk
    have hbk := hb k (by omega)
    rw [getD_get hkl] at hbk
    obtain ⟨g, off, hA, hc⟩ := (RT.ext E_k).at (by omega) hkl
    refine xp_skip ?_
    refine xp_seq ?_
    refine xp_block ?_
    refine xp_seq ?_
    refine xp_dw [] rfl rfl rfl ?_
    refine dw_pure (i := 0) rfl (by decide +kernel) (pv_move (v := .slice _ _ _) rfl) ?_
    refine dw_pure (i := 1) rfl (by decide +kernel) (pv_move (v := .int .i64 _) rfl) ?_
    refine dw_pure (i := 2) rfl (by decide +kernel) (pv_indexE rfl hA rfl rfl rfl (by omega) (by omega)) ?_
    refine dw_load (i := 3) rfl (by decide +kernel) ?_
    refine op_load (v := .int .i64 _) rfl rfl ((hc) 0 _ rfl) ?_
    refine dw_pure (i := 4) rfl (by decide +kernel) (pv_fieldAddr rfl rfl rfl rfl 4 rfl) ?_
    refine dw_load (i := 5) rfl (by decide +kernel) ?_
    refine op_loadP 0 (v := .int .i64 _) rfl rfl rfl rfl ?_
    refine dw_pure (i := 6) rfl (by decide +kernel) (pv_of (v := .bool _) rfl) ?_
    refine dw_end rfl ?_
    refine xp_cond rfl (fun ho => ?_) (fun ho => ?_)
    · skip
      have ho' : m.opn ≤ t[k] := of_decide_eq_true ho
      refine xp_region rfl ?_
      refine op_pure (pv_move (v := .slice _ _ _) rfl) ?_
      refine op_pure (pv_move (v := .int .i64 _) rfl) ?_
      refine op_buildSlice (zc := [_]) (vs := [(0, .int .i64 _)]) (cs := [_]) rfl rfl rfl rfl rfl rfl rfl fun b28 hb28 => ?_
      refine wp_norm [_, _, _, _] rfl ?_
      refine op_appendR 2 K2 rfl rfl rfl (fun V => rdP V (i := 3) rfl) rfl rfl rfl rfl rfl rfl rfl rfl rfl (by omega) rfl (by rw [flat_len (m := 1) (fun _ _ => rfl)]; have := listN_len s k; simp; omega) fun a2 h2a E2a ha2 => ?_
      refine wp_norm [_, _, _, _] rfl ?_
      refine op_pure (pv_assign (v := .slice _ _ _) rfl) ?_
      refine xp_region rfl ?_
      refine op_pure (pv_move (v := .int .i64 _) rfl) ?_
      refine op_pure (pv_arith rfl (by omega)) ?_
      refine op_pure (pv_assign (v := .int .i64 _) rfl) ?_
      refine ⟨(k + 1, a2), ⟨rfl, rfl, trivial⟩, rfl, rfl, (Ext.trans E_k E2a), fun h3 E3 => ⟨hkl, by rw [listN_succ, if_pos (by rw [hbk]; exact decide_eq_true ho'), List.flatMap_append]; exact ha2⟩, by first | omega | (dsimp only; omega), ?_⟩
      repeat (first | exact off_base _ _ _ | refine off_upd (by decide) ?_ | refine off_updL rfl ?_ | refine off_mix rfl ?_)
    · skip
      have ho' : ¬ m.opn ≤ t[k] := of_decide_eq_false ho
      refine xp_skip ?_
      refine xp_region rfl ?_
      refine op_pure (pv_move (v := .int .i64 _) rfl) ?_
      refine op_pure (pv_arith rfl (by omega)) ?_
      refine op_pure (pv_assign (v := .int .i64 _) rfl) ?_
      refine ⟨(k + 1, a), ⟨rfl, rfl, trivial⟩, rfl, rfl, E_k, fun h3 E3 => ⟨hkl, by rw [listN_succ, if_neg (by rw [hbk]; simpa using ho')]; exact K2⟩, by first | omega | (dsimp only; omega), ?_⟩
      repeat (first | exact off_base _ _ _ | refine off_upd (by decide) ?_ | refine off_updL rfl ?_ | refine off_mix rfl ?_)
  · skip
    have hke : k = m.levers.toNat := by have := geI hk; omega
    subst hke
    rw [show listN s 6 = listN s m.levers.toNat by rw [← listN_stop sl (6 - m.levers.toNat)]; congr 1; omega]
    refine xp_exit ?_
    refine xp_seq ?_
    refine xp_region rfl ?_
    refine op_pure (pv_move (v := .slice _ _ _) rfl) ?_
    refine op_pure (pv_assign (v := .slice _ _ _) rfl) ?_
    refine xp_ret ?_
    refine res_list (vs := [_]) Try.results46 ⟨resV_tmp rfl rfl, trivial⟩ fun V => ?_
    exact ⟨(Ext.trans (Ext.trans E1 E_k) (ext_wl V)), AccP.row (i := 2) K2 (by have := listN_len s m.levers.toNat; omega) (fun _ _ => rfl) V rfl⟩
theorem SoundsR_ok (m : MachP) (M : MOK m) (a : HandP) (AB AQ AL AW HA OA : Option Addr) (cB cQ cL cW cH cO : Nat) (h : AH) (RM : MachR h AB AQ AL AW m) (RH : HandR h HA OA a) (h1 : a.buttons.length < 2 ^ 40) (h2 : a.on.length < 2 ^ 40) :
    FnT Try.prog 17 #[machV AB AQ AL AW cB cQ cL cW m, handV HA OA cH cO a] h (fun v h' => ∃ L, v = .tuple #[L, .int .i64 (checkHandM m a)] ∧ SlR h' 1 intC (soundsL m a) L) := by
  refine call_body Try.func17 rfl Try.ntmps17 rfl ?_
  refine xp_seq ?_
  refine xp_region rfl ?_
  refine op_box (v := .agg #[.int .i64 _, .int .i64 _, .int .i64 _, .int .i64 _, .int .i64 _, .slice _ _ _, .slice _ _ _, .slice _ _ _, .slice _ _ _]) (cs := [_, _, _, _, _, _, _, _, _]) rfl rfl fun b2 hb2 => ?_
  refine wp_norm [_] rfl ?_
  refine op_box (v := .agg #[.slice _ _ _, .slice _ _ _]) (cs := [_, _]) rfl rfl fun b3 hb3 => ?_
  refine wp_norm [_, _] rfl ?_
  refine op_pure (pv_assign (v := .slice _ _ _) rfl) ?_
  refine op_pure (pv_assign (v := .int .i64 _) rfl) ?_
  refine xp_seq ?_
  refine xp_seq ?_
  refine xp_region rfl ?_
  refine op_loadPA 0 (vs := [.int .i64 _, .int .i64 _, .int .i64 _, .int .i64 _, .int .i64 _, .slice _ _ _, .slice _ _ _, .slice _ _ _, .slice _ _ _]) rfl rfl rfl rfl rfl ?_
  refine op_loadPA 1 (vs := [.slice _ _ _, .slice _ _ _]) rfl rfl rfl rfl rfl ?_
  refine op_fn (caps := []) (vs := [.agg #[.int .i64 _, .int .i64 _, .int .i64 _, .int .i64 _, .int .i64 _, .slice _ _ _, .slice _ _ _, .slice _ _ _, .slice _ _ _], .agg #[.slice _ _ _, .slice _ _ _]]) rfl rfl rfl (checkR_ok m M a AB AQ AL AW HA OA cB cQ cL cW cH cO h (RM.ext (Ext.refl _)) (RH.ext (Ext.refl _)) h1 h2) ?_
  rintro _ h3 E3 rfl
  refine op_pure (pv_assign (v := .int .i64 _) rfl) ?_
  refine xp_seq ?_
  refine xp_region rfl ?_
  refine op_pure (pv_move (v := .int .i64 _) rfl) ?_
  refine op_pure (pv_of (v := .bool _) rfl) ?_
  refine xp_cond rfl (fun hc => ?_) (fun hc => ?_)
  · skip
    have hc' : checkHandM m a ≠ 0 := by simpa using hc
    refine xp_seq ?_
    refine xp_region rfl ?_
    refine op_pure (pv_move (v := .int .i64 _) rfl) ?_
    refine op_pure (pv_assign (v := .slice _ _ _) rfl) ?_
    refine op_pure (pv_assign (v := .int .i64 _) rfl) ?_
    refine xp_ret ?_
    refine res_list (vs := [_, _]) Try.results17 ⟨resV_tmp rfl rfl, resV_tmp rfl rfl, trivial⟩ fun V => ?_
    exact ⟨(Ext.trans E3 (ext_wl V)), _, rfl, none, 0, by rw [soundsL, if_neg hc']; rfl, by rw [soundsL, if_neg hc']; exact row_nil _ _⟩
  · skip
    have hc' : checkHandM m a = 0 := by simpa using hc
    have F := fit_of M (checkHand_ok0 hc').2
    refine xp_skip ?_
    refine xp_seq ?_
    refine xp_region rfl ?_
    refine op_loadPA 0 (vs := [.int .i64 _, .int .i64 _, .int .i64 _, .int .i64 _, .int .i64 _, .slice _ _ _, .slice _ _ _, .slice _ _ _, .slice _ _ _]) rfl rfl rfl rfl rfl ?_
    refine op_loadPA 1 (vs := [.slice _ _ _, .slice _ _ _]) rfl rfl rfl rfl rfl ?_
    refine op_fn (caps := []) (vs := [.agg #[.int .i64 _, .int .i64 _, .int .i64 _, .int .i64 _, .int .i64 _, .slice _ _ _, .slice _ _ _, .slice _ _ _, .slice _ _ _], .agg #[.slice _ _ _, .slice _ _ _]]) rfl rfl rfl (soundsR_ok m M a F AB AQ AL AW HA OA cB cQ cL cW cH cO h3 (RM.ext E3) (RH.ext E3)) ?_
    rintro _ h4 E4 ⟨A4, c4, rfl, S4⟩
    refine op_pure (pv_assign (v := .slice _ _ _) rfl) ?_
    refine op_pure (pv_assign (v := .int .i64 _) rfl) ?_
    refine xp_ret ?_
    refine res_list (vs := [_, _]) Try.results17 ⟨resV_tmp rfl rfl, resV_tmp rfl rfl, trivial⟩ fun V => ?_
    rw [hc', soundsL, if_pos hc']
    exact ⟨(Ext.trans (Ext.trans E3 E4) (ext_wl V)), _, rfl, A4, c4, rfl, S4.ext (ext_wl V)⟩
end
end Go.Proofs.Ytlfbcimcehcomaa
/- Walks of package rod: Chord. Conditions: as each theorem states. -/
namespace Go.Proofs.Ytlfbcimcehcomaa
open Go Go.HL Go.Proofs Go.Wx Go.Rd
section
variable [Lvl]
set_option maxRecDepth 100000
def ChoI (P : List Int → Bool) (n : Nat) (p3 p4 p10 p11 : Nat × Obj) (b6 b7 l : Nat) (t6 t7 : TypeId) (r : Loop) (h0 : AH) (k : Nat) (h : AH) (M : Pv) : Prop :=
  Ext h0 h ∧ (∀ i s, i < k → (setsM n)[i]? = some s → P s = false) ∧
    M = [some p3, some p4, some (b6, .cells #[.slice none 0 0] t6 (0, 0)), some (b7, .cells #[.int .i64 0] t7 (0, 0)), some p10, some p11, some (l, obL r .ready none)]
def ChoF (P : List Int → Bool) (n : Nat) (p3 p4 p10 p11 : Nat × Obj) (b6 b7 l : Nat) (t6 t7 : TypeId) (r : Loop) (h0 : AH) (h : AH) (M : Pv) : Prop :=
  Ext h0 h ∧ ∃ (x : List Int) (BA : Option Addr) (cB : Nat), (setsM n).find? P = some x ∧ Row h 1 intC BA x ∧
    M = [some p3, some p4, some (b6, .cells #[.slice BA x.length cB] t6 (0, 0)), some (b7, .cells #[.int .i64 0] t7 (0, 0)), some p10, some p11, some (l, obL r .done (some .ret))]
theorem ChoI.ext {P : List Int → Bool} {n : Nat} {p3 p4 p10 p11 : Nat × Obj} {b6 b7 l : Nat} {t6 t7 : TypeId} {r : Loop} {h0 h h' : AH} {k : Nat} {M : Pv} (I : ChoI P n p3 p4 p10 p11 b6 b7 l t6 t7 r h0 k h M) (E : Ext h h') : ChoI P n p3 p4 p10 p11 b6 b7 l t6 t7 r h0 k h' M := ⟨I.1.trans E, I.2⟩
theorem ChoF.ext {P : List Int → Bool} {n : Nat} {p3 p4 p10 p11 : Nat × Obj} {b6 b7 l : Nat} {t6 t7 : TypeId} {r : Loop} {h0 h h' : AH} {M : Pv} (I : ChoF P n p3 p4 p10 p11 b6 b7 l t6 t7 r h0 h M) (E : Ext h h') : ChoF P n p3 p4 p10 p11 b6 b7 l t6 t7 r h0 h' M := by
  obtain ⟨E0, x, BA, cB, e1, R1, e2⟩ := I
  exact ⟨E0.trans E, x, BA, cB, e1, R1.ext E, e2⟩
end
end Go.Proofs.Ytlfbcimcehcomaa
/- Plain: all sets of so many numbers, as they are listed. Conditions: none. -/
namespace Go.Rd
open Go Go.HL Go.Wx
end Go.Rd
/- Walks: the kit's and the reference's lists of sets. Conditions: as each theorem states. -/
namespace Go.Proofs.Ytlfbcimcehcomaa
open Go Go.HL Go.Proofs Go.Wx Go.Rd
section
variable [Lvl]
set_option maxRecDepth 100000
end
end Go.Proofs.Ytlfbcimcehcomaa
/- Walks: the chord is the first of all sets. Conditions: as each theorem states. -/
namespace Go.Proofs.Ytlfbcimcehcomaa
open Go Go.HL Go.Proofs Go.Wx Go.Rd
section
variable [Lvl]
set_option maxRecDepth 100000
end
end Go.Proofs.Ytlfbcimcehcomaa
/- Walks of the reference: all sets, all hands. Conditions: as each theorem states. -/
namespace Go.Proofs.Ytlfbcimcehcomaa
open Go Go.HL Go.Proofs Go.Wx Go.Rd
section
variable [Lvl]
set_option maxRecDepth 100000
end
end Go.Proofs.Ytlfbcimcehcomaa
/- Walks of the reference: all hands; equal lists; sets with a number more, or without one. Conditions: as each theorem states. -/
namespace Go.Proofs.Ytlfbcimcehcomaa
open Go Go.HL Go.Proofs Go.Wx Go.Rd
section
variable [Lvl]
set_option maxRecDepth 100000
end
end Go.Proofs.Ytlfbcimcehcomaa
/- The own logic, part GV: panics that are raised and recovered, a call of a closure that is put off. Conditions: none. -/
namespace Go.HL
open Go Go.Conc
variable [Lvl]
section
variable {P : Program} {n : Nat} {ops : Array Oper} {os : List Oper} {K : Sl → Pv → AH → Prop} {E : Value → Sl → Pv → AH → Prop} {S : Sl} {L : Pv} {h : AH} {d : Option Tmp} {ty : TypeId} {ps : String} {af : Array Edge}
/-- A panic. -/
theorem op_panic {x : Operand} {t : TypeId} {v : Value} (hx : ev n S x = .iface t v) (e : E (.iface t v) S L h) : wpL P n ops (⟨d, .panic x, ty, ps, af, none⟩ :: os) K E S L h := by
  refine op_of fun V => ?_
  unfold opW
  simp only [execOp, hx]
  exact ⟨L, h, rfl, V, e⟩
/-- A function that may panic: R holds of what it returns, Q of what it panics with. -/
def FnE (P : Program) (f : FuncId) (args : Array Value) (h : AH) (R Q : Value → AH → Prop) : Prop := CallT P f args h (fun v h' => Ext h h' ∧ R v h') (fun v h' => Ext h h' ∧ Q v h')
theorem FnE.of {f : FuncId} {args : Array Value} {R Q : Value → AH → Prop} (c : FnT P f args h R) : FnE P f args h R Q := CallT.mono c (fun _ _ r => r) (fun _ _ y => y.elim)
end
section
variable {P : Program} {n : Nat} {S : Sl} {D : Df} {L : Pv} {h : AH} {ops : Array Oper} {i : Nat} {rest : List Nat} {o : Oper} {b : Frame} {k : List Item} {cs : List Frame} {w : World} {main : Bool}
/-- A call of a closure that is put off. -/
def laterF (g : FuncId) (caps : Array Value) : Deferred := { target := .fn (.func g) caps, args := #[] }
theorem step_deferF {x : Operand} {g : FuncId} {caps : Array Value} {ats : Array TypeId} (ho : ops[i]? = some o) (hw : Region.wanted o (yielded ops (arr n S)) = true) (hop : o.op = .defer { callee := .value x, args := #[], argTypes := ats }) (hx : ev n S x = .func (.func g) #[] caps) (hro : b.roundOf = none) :
    stepG P main (G (mk b n S D (.inRegion ops (i :: rest) :: k)) cs) w = .go (G (mk b n (put S o.dst undef) (laterF g caps :: D) (.inRegion ops rest :: k)) cs) w := by
  have he := mk_eval b n S D (.inRegion ops (i :: rest) :: k)
  simp only [mk, hro] at he
  have hr : (execOp (ev n S) o).runT P w #[] = (.ok (.defer (laterF g caps)) w, #[]) := by
    unfold execOp
    simp only [hop, resolve, Deferred.ofValue, hx]
    simp [bind, pure, Sem.bind, Sem.runT, -Sem.runT_eq, laterF]
  have hf := mk_finish (n := n) b S (laterF g caps :: D) ops i rest k o ho undef
  have e1 : stepG P main (G (mk b n S D (.inRegion ops (i :: rest) :: k)) cs) w = stepG.apply P true (mk b n S D (.inRegion ops (i :: rest) :: k)) cs none (execOp (ev n S) o) w := by
    simp only [stepG, stepG.exec, stepG.oper, Frame.oper?, mk, ho, he, Option.map_some, Option.getD_some, hw, if_true, hro]
  rw [e1]
  unfold stepG.apply
  simp only [hr, if_true]
  have hf2 : Frame.finish { mk b n S D (.inRegion ops (i :: rest) :: k) with defers := laterF g caps :: (mk b n S D (.inRegion ops (i :: rest) :: k)).defers } undef = mk b n (put S o.dst undef) (laterF g caps :: D) (.inRegion ops rest :: k) := hf
  rw [hf2]
  split <;> simp_all [seen_nil, after_nil]
theorem goes_deferF {K : Post} {x : Operand} {g : FuncId} {caps : Array Value} {ats : Array TypeId} (ho : ops[i]? = some o) (hw : Region.wanted o (yielded ops (arr n S)) = true) (hop : o.op = .defer { callee := .value x, args := #[], argTypes := ats }) (hx : ev n S x = .func (.func g) #[] caps)
    (g2 : Goes P n none [.inRegion ops rest] K (put S o.dst undef) (laterF g caps :: D) L h) : Goes P n none [.inRegion ops (i :: rest)] K S D L h := by
  intro H V b hb k cs
  refine .ctl (fr' := mk b n (put S o.dst undef) (laterF g caps :: D) ([.inRegion ops rest] ++ k)) (cs' := cs) (fun main w => step_deferF ho hw hop hx hb) ?_
  have V' : Fits h L (laterF g caps :: D) H := ⟨V.valid, V.disj, V.nd, V.eq⟩
  exact g2 H V' b hb k cs
/-- The closure is run when the frame is left. -/
theorem step_later {g : FuncId} {gn : Func} {c : Code} {caps : Array Value} {md : FrameMode} {todo : List Item} (hg : P.funcs[g]? = some gn) (hname : (gn.name == "runtime.NumGoroutine") = false) (hb : gn.body = some c) (hmd : md = .returning ∨ ∃ ch, md = .panicking ch) :
    stepG P main (G { mk b n S (laterF g caps :: D) todo with mode := md } cs) w = .go (G (Frame.enter P g caps .deferred) ({ mk b n S D todo with mode := md } :: cs)) w := by
  have h1 : ¬ gn.name = "runtime.NumGoroutine" := by simpa using hname
  rcases hmd with rfl | ⟨ch, rfl⟩
  · simp [stepG, unwind, callDeferred, laterF, mk, invoke, callFunc, hg, h1, hb, GStep.after, seen_none]
  · simp [stepG, unwind, callDeferred, laterF, mk, invoke, callFunc, hg, h1, hb, GStep.after, seen_none]
theorem exec_recover {ats : Array TypeId} (hop : o.op = .call { callee := .builtin .recover, args := #[], argTypes := ats }) : (execOp (ev n S) o).runT P w #[] = (.ok .recover w, #[]) := by
  unfold execOp
  simp only [hop, resolve, invoke, builtin]
  simp [bind, pure, Sem.bind, Sem.runT, -Sem.runT_eq]
theorem step_recover {ats : Array TypeId} {v : Value} {older : List PanicEntry} {c0 : Frame} (ho : ops[i]? = some o) (hw : Region.wanted o (yielded ops (arr n S)) = true) (hop : o.op = .call { callee := .builtin .recover, args := #[], argTypes := ats }) (hbk : b.kind = .deferred) (hro : b.roundOf = none)
    (hm : c0.mode = .panicking ({ v := v, recovered := false } :: older)) :
    stepG P main (G (mk b n S D (.inRegion ops (i :: rest) :: k)) (c0 :: cs)) w = .go (G (mk b n (put S o.dst v) D (.inRegion ops rest :: k)) ({ c0 with mode := .panicking ({ v := v, recovered := true } :: older) } :: cs)) w := by
  have he := mk_eval b n S D (.inRegion ops (i :: rest) :: k)
  simp only [mk, hro] at he
  have hf := mk_finish (n := n) b S D ops i rest k o ho v
  have e1 : stepG P main (G (mk b n S D (.inRegion ops (i :: rest) :: k)) (c0 :: cs)) w = stepG.apply P true (mk b n S D (.inRegion ops (i :: rest) :: k)) (c0 :: cs) none (execOp (ev n S) o) w := by
    simp only [stepG, stepG.exec, stepG.oper, Frame.oper?, mk, ho, he, Option.map_some, Option.getD_some, hw, if_true, hro, hop]
  have e2 : tryRecover (mk b n S D (.inRegion ops (i :: rest) :: k)) (c0 :: cs) = some (v, { c0 with mode := .panicking ({ v := v, recovered := true } :: older) } :: cs) := by
    simp only [tryRecover, mk, hbk, hm]
  have e3 : (mk b n S D (.inRegion ops (i :: rest) :: k)).roundOf = none := hro
  rw [e1]
  unfold stepG.apply
  simp only [exec_recover hop, if_true, e3, e2, hf]
  split <;> simp_all [seen_nil, after_nil]
theorem step_norec {ats : Array TypeId} {c0 : Frame} (ho : ops[i]? = some o) (hw : Region.wanted o (yielded ops (arr n S)) = true) (hop : o.op = .call { callee := .builtin .recover, args := #[], argTypes := ats }) (hbk : b.kind = .deferred) (hro : b.roundOf = none)
    (hm : c0.mode = .returning) :
    stepG P main (G (mk b n S D (.inRegion ops (i :: rest) :: k)) (c0 :: cs)) w = .go (G (mk b n (put S o.dst .nilIface) D (.inRegion ops rest :: k)) (c0 :: cs)) w := by
  have he := mk_eval b n S D (.inRegion ops (i :: rest) :: k)
  simp only [mk, hro] at he
  have hf := mk_finish (n := n) b S D ops i rest k o ho .nilIface
  have e1 : stepG P main (G (mk b n S D (.inRegion ops (i :: rest) :: k)) (c0 :: cs)) w = stepG.apply P true (mk b n S D (.inRegion ops (i :: rest) :: k)) (c0 :: cs) none (execOp (ev n S) o) w := by
    simp only [stepG, stepG.exec, stepG.oper, Frame.oper?, mk, ho, he, Option.map_some, Option.getD_some, hw, if_true, hro, hop]
  have e2 : tryRecover (mk b n S D (.inRegion ops (i :: rest) :: k)) (c0 :: cs) = none := by
    simp only [tryRecover, mk, hbk, hm]
  have e3 : (mk b n S D (.inRegion ops (i :: rest) :: k)).roundOf = none := hro
  rw [e1]
  unfold stepG.apply
  simp only [exec_recover hop, if_true, e3, e2, hf]
  split <;> simp_all [seen_nil, after_nil]
/-- A closure that was put off comes back. -/
theorem step_back {g : FuncId} {gn : Func} {c0 : Frame} {todo : List Item} {v : Value} (hg : P.funcs[g]? = some gn) (hres : gn.results = #[]) (hbf : b.fn = g) (hbk : b.kind = .deferred) (hm : c0.mode = .returning ∨ c0.mode = .panicking [{ v := v, recovered := true }]) :
    stepG P main (G { mk b n S [] todo with mode := .returning } (c0 :: cs)) w = .go (G { c0 with mode := .returning } cs) w := by
  subst hbf
  have hr : ∀ w, (results gn (arr n S)).runT P w #[] = (.ok (.tuple #[]) w, #[]) := fun w => by
    exact Prod.ext ((Sem.runT_fst _ _ _ _).trans (results_none hres _ P w)) (events_results_none hres _ _)
  rcases hm with hm | hm
  · have e : c0 = { c0 with mode := .returning } := by cases c0; simp at hm; subst hm; rfl
    simp only [stepG, unwind, mk, hg, hr w, doReturn, hbk, hm]
    simp [seen_nil, after_nil]
    exact e
  · simp only [stepG, unwind, mk, hg, hr w, doReturn, hbk, hm]
    simp [seen_nil, after_nil]
end
section
variable {P : Program} {n : Nat} {K : Value → AH → Prop}
/-- What the closure has to do, behind the word that recovers: x is what it got. -/
def Clo (P : Program) (m : Nat) (ops0 : Array Oper) (c2 : Code) (t : Tmp) (x : Value) (caps : Array Value) (L : Pv) (h : AH) (Q : Pv → AH → Prop) : Prop :=
  Nat.ble caps.size m = true ∧ Goes P m none ([.inRegion ops0 [1]] ++ [.code c2]) (fun e _ D L' h' => (e = .normal ∨ e = .ret) ∧ D = [] ∧ Q L' h') (put (argS caps) (some t) x) [] L h
def doneK (P : Program) (n : Nat) (fn : Func) (K : Value → AH → Prop) (S : Sl) (L : Pv) (h : AH) : Prop := Valid h L → dem P (results fn (arr n S)) (wl h L) K noE
/-- At the end of the body of a function that has put off a closure. -/
def deferK (P : Program) (n : Nat) (fn : Func) (K : Value → AH → Prop) (g : FuncId) (m : Nat) (ops0 : Array Oper) (c2 : Code) (t : Tmp) : Post
  | .normal, S, D, L, h => (D = [] ∧ doneK P n fn K S L h) ∨ ∃ caps, D = [laterF g caps] ∧ Clo P m ops0 c2 t .nilIface caps L h (fun L2 h2 => doneK P n fn K S L2 h2)
  | .ret, S, D, L, h => (D = [] ∧ doneK P n fn K S L h) ∨ ∃ caps, D = [laterF g caps] ∧ Clo P m ops0 c2 t .nilIface caps L h (fun L2 h2 => doneK P n fn K S L2 h2)
  | .panic v, S, D, L, h => ∃ caps, D = [laterF g caps] ∧ Clo P m ops0 c2 t v caps L h (fun L2 h2 => doneK P n fn K S L2 h2)
  | .exit _, _, _, _, _ => False
theorem call_defer {f : FuncId} {fn : Func} {c : Code} {args : Array Value} {h : AH} (hf : P.funcs[f]? = some fn) (hb : fn.body = some c) (hn : fn.ntmps = n) (ha : Nat.ble args.size n = true)
    {g : FuncId} {gn : Func} {id0 : Nat} {ops0 : Array Oper} {c2 : Code} {m : Nat} {o0 : Oper} {t : Tmp} {ats : Array TypeId} (hg : P.funcs[g]? = some gn) (hname : (gn.name == "runtime.NumGoroutine") = false) (hgb : gn.body = some (.seq (.region id0 ops0 false) c2)) (hgm : gn.ntmps = m) (hres : gn.results = #[])
    (h0 : ops0[0]? = some o0) (hop : o0.op = .call { callee := .builtin .recover, args := #[], argTypes := ats }) (hd : o0.dst = some t) (hgd : o0.guard = none) (hsz : ops0.size = 2)
    (w : xp P n none c (deferK P n fn K g m ops0 c2 t) (argS args) [] [] h) : CallT P f args h K noE := by
  intro hfin c0 cs
  have he : Frame.enter P f args .normal = mk { (default : Frame) with fn := f, kind := .normal, roundOf := none } n (argS args) [] [.code c] := by
    simp [Frame.enter, mk, hf, hb, hn, enter_tmps n args (Nat.le_of_ble_eq_true ha)]
  rw [he]
  have w1 := w h (by have := Fits.nil (valid_nil hfin); rw [wl_nil] at this; exact this) { (default : Frame) with fn := f, kind := .normal, roundOf := none } rfl [] (c0 :: cs)
  obtain ⟨b, hbdef⟩ : ∃ b : Frame, b = { (default : Frame) with fn := f, kind := .normal, roundOf := none } := ⟨_, rfl⟩
  have hbf : b.fn = f := by rw [hbdef]
  have hbk : b.kind = .normal := by rw [hbdef]
  have hbr : b.roundOf = none := by rw [hbdef]
  rw [← hbdef] at w1 ⊢
  -- the way back, when nothing is put off any more
  have back : ∀ (S : Sl) (L : Pv) (h' H : AH) (todo : List Item), Fits h' L [] H → doneK P n fn K S L h' →
      Rch P (fun fr cs' h' => cs' = cs ∧ ((∃ v, fr = c0.finish v ∧ K v h') ∨ (∃ v, fr = c0.raise [{ v := v, recovered := false }] ∧ noE v h'))) { mk b n S [] todo with mode := .returning } (c0 :: cs) H := by
    intro S L h' H todo V kk
    refine ret_run hf c0 cs b hbf hbk S L todo [] h' H V rfl (fun h2 _ e V2 => ?_)
    rw [e rfl] at V2 ⊢
    exact kk V2
  -- the closure is run
  have run : ∀ (S : Sl) (L : Pv) (h' H : AH) (todo : List Item) (caps : Array Value) (x : Value) (md md' : FrameMode), Fits h' L [laterF g caps] H → (md = .returning ∨ ∃ ch, md = .panicking ch) →
      (∀ (b' : Frame) (S' : Sl) (k : List Item) (c1 : Frame) (cs' : List Frame) main w, c1.mode = md → b'.kind = .deferred → b'.roundOf = none → stepG P main (G (mk b' m S' [] (.inRegion ops0 (0 :: [1]) :: k)) (c1 :: cs')) w = .go (G (mk b' m (put S' o0.dst x) [] (.inRegion ops0 [1] :: k)) ({ c1 with mode := md' } :: cs')) w) →
      (md' = .returning ∨ md' = .panicking [{ v := x, recovered := true }]) →
      Clo P m ops0 c2 t x caps L h' (fun L2 h2 => doneK P n fn K S L2 h2) →
      Rch P (fun fr cs' h' => cs' = cs ∧ ((∃ v, fr = c0.finish v ∧ K v h') ∨ (∃ v, fr = c0.raise [{ v := v, recovered := false }] ∧ noE v h'))) { mk b n S [laterF g caps] todo with mode := md } (c0 :: cs) H := by
    intro S L h' H todo caps x md md' V hmd hrec hmd' clo
    obtain ⟨hcs, clo⟩ := clo
    have hH : Fits h' L [] H := ⟨V.valid, by rw [mkH_nil]; exact disj_nil _, List.nodup_nil, by rw [V.eq]; rfl⟩
    refine .ctl (fr' := Frame.enter P g caps .deferred) (cs' := { mk b n S [] todo with mode := md } :: c0 :: cs) (fun main w => step_later hg hname hgb hmd) ?_
    have he2 : Frame.enter P g caps .deferred = mk { (default : Frame) with fn := g, kind := .deferred, roundOf := none } m (argS caps) [] [.code (.seq (.region id0 ops0 false) c2)] := by
      simp [Frame.enter, mk, hg, hgb, hgm, enter_tmps m caps (Nat.le_of_ble_eq_true hcs)]
    rw [he2]
    refine .ctl (fr' := mk { (default : Frame) with fn := g, kind := .deferred, roundOf := none } m (argS caps) [] [.code (.region id0 ops0 false), .code c2]) (cs' := { mk b n S [] todo with mode := md } :: c0 :: cs) (fun main w => by simp [stepG, stepG.exec, mk]) ?_
    refine .ctl (fr' := mk { (default : Frame) with fn := g, kind := .deferred, roundOf := none } m (argS caps) [] [.inRegion ops0 (0 :: [1]), .code c2]) (cs' := { mk b n S [] todo with mode := md } :: c0 :: cs) (fun main w => by simp [stepG, stepG.exec, mk, hsz]; rfl) ?_
    refine .ctl (fr' := mk { (default : Frame) with fn := g, kind := .deferred, roundOf := none } m (put (argS caps) (some t) x) [] ([.inRegion ops0 [1]] ++ [.code c2] ++ [])) (cs' := { mk b n S [] todo with mode := md' } :: c0 :: cs) (fun main w => by rw [← hd]; exact hrec _ _ _ _ _ main w rfl rfl rfl) ?_
    refine (clo H hH _ rfl [] ({ mk b n S [] todo with mode := md' } :: c0 :: cs)).bind ?_
    rintro fr cs' H' ⟨rfl, e, S', D', L', h2, V', ⟨hex, rfl, q⟩, a⟩
    have fin : ∀ todo', Rch P (fun fr cs' h' => cs' = cs ∧ ((∃ v, fr = c0.finish v ∧ K v h') ∨ (∃ v, fr = c0.raise [{ v := v, recovered := false }] ∧ noE v h'))) { mk { (default : Frame) with fn := g, kind := .deferred, roundOf := none } m S' [] todo' with mode := .returning } ({ mk b n S [] todo with mode := md' } :: c0 :: cs) H' := fun todo' => by
      refine .ctl (fr' := { mk b n S [] todo with mode := .returning }) (cs' := c0 :: cs) (fun main w => step_back (c0 := { mk b n S [] todo with mode := md' }) (v := x) hg hres rfl rfl hmd') (back S L' h2 H' todo V' q)
    rcases hex with rfl | rfl
    · have a' : fr = mk { (default : Frame) with fn := g, kind := .deferred, roundOf := none } m S' [] [] := a
      subst a'
      exact .ctl (fr' := { mk { (default : Frame) with fn := g, kind := .deferred, roundOf := none } m S' [] [] with mode := .returning }) (cs' := { mk b n S [] todo with mode := md' } :: c0 :: cs) (fun main w => by simp [stepG, stepG.exec, mk]) (fin [])
    · obtain ⟨todo', rfl⟩ := a.1 rfl
      exact fin todo'
  have hw0 : ∀ S' : Sl, Region.wanted o0 (yielded ops0 (arr m S')) = true := fun S' => by simp [Region.wanted, hgd]
  have ret : ∀ (S : Sl) (D : Df) (L : Pv) (h' H : AH) (todo : List Item), Fits h' L D H → ((D = [] ∧ doneK P n fn K S L h') ∨ ∃ caps, D = [laterF g caps] ∧ Clo P m ops0 c2 t .nilIface caps L h' (fun L2 h2 => doneK P n fn K S L2 h2)) →
      Rch P (fun fr cs' h' => cs' = cs ∧ ((∃ v, fr = c0.finish v ∧ K v h') ∨ (∃ v, fr = c0.raise [{ v := v, recovered := false }] ∧ noE v h'))) { mk b n S D todo with mode := .returning } (c0 :: cs) H := by
    rintro S D L h' H todo V (⟨rfl, kk⟩ | ⟨caps, rfl, clo⟩)
    · exact back S L h' H todo V kk
    · refine run S L h' H todo caps .nilIface .returning .returning V (.inl rfl) ?_ (.inl rfl) clo
      intro b' S' k c1 cs' main w hm hk hr
      have hc1 : c1 = { c1 with mode := .returning } := by cases c1; simp at hm; subst hm; rfl
      rw [← hc1]
      exact step_norec h0 (hw0 S') hop hk hr hm
  refine w1.bind ?_
  rintro fr cs' H ⟨rfl, e, S', D', L', h', V', kk, a⟩
  cases e with
  | normal =>
    have a' : fr = mk b n S' D' [] := a
    subst a'
    exact .ctl (fr' := { mk b n S' D' [] with mode := .returning }) (cs' := c0 :: cs) (fun main w => by simp [stepG, stepG.exec, mk, hbr]) (ret S' D' L' h' H [] V' kk)
  | ret =>
    obtain ⟨todo, rfl⟩ := a.1 (by rw [hbdef])
    exact ret S' D' L' h' H todo V' kk
  | panic v =>
    obtain ⟨todo, rfl⟩ := a
    obtain ⟨caps, rfl, clo⟩ := kk
    refine run S' L' h' H todo caps v (.panicking [{ v := v, recovered := false }]) (.panicking [{ v := v, recovered := true }]) V' (.inr ⟨_, rfl⟩) ?_ (.inr rfl) clo
    intro b' S2 k c1 cs' main w hm hk hr
    exact step_recover h0 (hw0 S2) hop hk hr hm
  | exit id => exact kk.elim
end
end Go.HL
/- The own logic, part GT: the first and the last part of a slice. Conditions: none. -/
namespace Go.HL
open Go
variable [Lvl]
section
variable {P : Program} {n : Nat} {d : Option Tmp} {ty : TypeId} {ps : String} {af : Array Edge} {S : Sl}
theorem pv_sliceHi {x hi : Operand} {t e : TypeId} {m len cap : Nat} {A : Option Addr} (j : Nat) {k2 : IntKind} {j' : Int} (hx : ev n S x = .slice A len cap) (hh : ev n S hi = .int k2 j') (ej : j' = j) (ht : pev P (underlying t) = some (.slice e)) (hs : pev P (sizeOf e) = some m) (hjc : j ≤ cap) :
    pev P (execOp (ev n S) ⟨d, .slice t x none (some hi) none, ty, ps, af, none⟩) = some (.value (.slice A j cap)) := by
  subst ej
  simp only [execOp, hx, hh, Option.map]
  refine (pev_bind (a := .slice A j cap) ?_).trans rfl
  unfold Instr.sliceAt
  refine (pev_mbind ht).trans ?_
  simp only
  unfold Instr.slice
  refine (pev_mbind ht).trans ?_
  simp only
  have hb : pev P (Instr.sliceBounds true len cap none (some (.int k2 (j : Int))) none) = some (0, j, cap) := by
    unfold Instr.sliceBounds
    refine (pev_mbind (a := cap) rfl).trans ?_
    have h1 : pev P (Instr.sliceBound (.int k2 (j : Int)) cap .sliceAcap) = some j := by
      unfold Instr.sliceBound
      refine (pev_mbind (a := (k2, (j : Int))) rfl).trans ?_
      simp only
      rw [if_pos ⟨by omega, by omega⟩]
      rfl
    refine (pev_mbind h1).trans ?_
    rfl
  refine (pev_mbind hb).trans ?_
  simp only
  refine (pev_mbind hs).trans ?_
  have e0 : (if cap = 0 then A else A.map (·.add (0 * m))) = A := by
    split
    · rfl
    · cases A <;> simp [Addr.add]
  show some (Value.slice (if cap = 0 then A else A.map (·.add (0 * m))) (j - 0) (cap - 0)) = _
  rw [e0]
  rfl
theorem pv_sliceLo {x lo : Operand} {t e : TypeId} {m len cap : Nat} {A : Option Addr} (i : Nat) {k : IntKind} {i' : Int} (hx : ev n S x = .slice A len cap) (hl : ev n S lo = .int k i') (ei : i' = i) (ht : pev P (underlying t) = some (.slice e)) (hs : pev P (sizeOf e) = some m) (hij : i ≤ len) (hc : len ≤ cap) :
    pev P (execOp (ev n S) ⟨d, .slice t x (some lo) none none, ty, ps, af, none⟩) = some (.value (.slice (if cap = i then A else A.map (·.add (i * m))) (len - i) (cap - i))) := by
  subst ei
  simp only [execOp, hx, hl, Option.map]
  refine (pev_bind (a := .slice (if cap = i then A else A.map (·.add (i * m))) (len - i) (cap - i)) ?_).trans rfl
  unfold Instr.sliceAt
  refine (pev_mbind ht).trans ?_
  simp only
  unfold Instr.slice
  refine (pev_mbind ht).trans ?_
  simp only
  have hb : pev P (Instr.sliceBounds true len cap (some (.int k (i : Int))) none none) = some (i, len, cap) := by
    unfold Instr.sliceBounds
    refine (pev_mbind (a := cap) rfl).trans ?_
    have h1 : ∀ f, pev P (Instr.sliceBound (.int .i64 (len : Int)) cap f) = some len := by
      intro f
      unfold Instr.sliceBound
      refine (pev_mbind (a := (IntKind.i64, (len : Int))) rfl).trans ?_
      simp only
      rw [if_pos ⟨by omega, by omega⟩]
      rfl
    have h2 : pev P (Instr.sliceBound (.int k (i : Int)) len .sliceB) = some i := by
      unfold Instr.sliceBound
      refine (pev_mbind (a := (k, (i : Int))) rfl).trans ?_
      simp only
      rw [if_pos ⟨by omega, by omega⟩]
      rfl
    first
    | (refine (pev_mbind (a := len) rfl).trans ?_; refine (pev_mbind h2).trans ?_; rfl)
    | (refine (pev_mbind (a := len) (h1 _)).trans ?_; refine (pev_mbind h2).trans ?_; rfl)
  refine (pev_mbind hb).trans ?_
  simp only
  refine (pev_mbind hs).trans ?_
  rfl
end
end Go.HL
