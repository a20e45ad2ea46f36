/- An own logic over the model, its walks and its plain laws, joined of parts R53 R34 Rs R35 R36 R37 R38 GT R39 Rt R40 R41 R42 Ru R54 R55 R57 R22. Conditions: as each theorem states. -/
import Derived.Test.YthphpbdmbmiaiaaLa5
import Derived.Test.YthphpbdmbmiaiaaLa4
import Derived.Test.YthphpbdmbmiaiaaLa3
import Derived.Test.YthphpbdmbmiaiaaLa2
set_option linter.all false
/- Walks of the reference: the checks of any machine and hand. Conditions: as each theorem states. -/
namespace Go.Proofs.Ythphpbdmbmiaiaa
open Go Go.HL Go.Proofs Go.Wx Go.Rd
section
variable [Lvl]
set_option maxRecDepth 100000
def pk3 (m : MachP) : Int := if m.links.length > 4 then 6 else firstErr (checkLinkM m) m.links
def pk2 (m : MachP) : Int := if m.pins.length > 8 then 6 else if firstErr (checkPinM m) m.pins ≠ 0 then firstErr (checkPinM m) m.pins else pk3 m
def pk1 (m : MachP) : Int := if m.buttons.length > 4 then 6 else if firstErr (checkButtonM m) m.buttons ≠ 0 then firstErr (checkButtonM m) m.buttons else pk2 m
theorem pk_chk (m : MachP) : chk1 m = if pk1 m ≠ 0 then pk1 m else chk4 m := by
 unfold chk1 chk2 chk3 pk1 pk2 pk3
 by_cases a1 : m.buttons.length > 4
 ·simp only [if_pos a1]; rfl
 simp only [if_neg a1]
 by_cases a2 : firstErr (checkButtonM m) m.buttons ≠ 0
 ·simp only [if_pos a2]
 simp only [if_neg a2]
 by_cases a3 : m.pins.length > 8
 ·simp only [if_pos a3]; rfl
 simp only [if_neg a3]
 by_cases a4 : firstErr (checkPinM m) m.pins ≠ 0
 ·simp only [if_pos a4]
 simp only [if_neg a4]
 by_cases a5 : m.links.length > 4
 ·simp only [if_pos a5]; rfl
 simp only [if_neg a5]
set_option maxHeartbeats 4000000 in
theorem checkPartsG_ok (m : MachP) (b1 : 1 ≤ m.rods ∧ m.rods ≤ 6) (b2 : 1 ≤ m.levers ∧ m.levers ≤ 6) (b3 : 0 ≤ m.regs ∧ m.regs ≤ 2) (b4 : 1 ≤ m.travel ∧ m.travel ≤ 12) (AB AQ AL AW : Option Addr) (cB cQ cL cW : Nat) (h : AH) (R : MachR h AB AQ AL AW m) (h0 : m.buttons.length < 2 ^ 40) (h1 : m.pins.length < 2 ^ 40) (h2 : m.links.length < 2 ^ 40) :
  FnT Try.prog 90 #[machV AB AQ AL AW cB cQ cL cW m] h (fun v _ => v = .int .i64 (pk1 m)) := by
 refine call_body Try.func90 rfl Try.ntmps90 rfl ?_
 refine xp_seq ?_
 refine xp_region rfl ?_
 refine op_box (v := .agg #[.int .i64 _, .int .i64 _, .int .i64 _, .int .i64 _, .int .i64 _, .slice _ _ _, .slice _ _ _, .slice _ _ _, .slice _ _ _]) (cs := [_, _, _, _, _, _, _, _, _]) rfl rfl fun b1 hb1 => ?_
 refine wp_norm [_] rfl ?_
 refine op_pure (pv_assign (v := .int .i64 _) rfl) ?_
 refine xp_seq ?_
 refine xp_seq ?_
 refine xp_region rfl ?_
 refine op_pure (pv_fieldAddr rfl rfl rfl rfl 5 rfl) ?_
 refine op_loadP 0 (v := .slice _ _ _) rfl rfl rfl rfl ?_
 refine op_pure (pv_len rfl rfl) ?_
 refine op_pure (pv_of (v := .bool _) rfl) ?_
 refine xp_cond rfl (fun hb => ?_) (fun hb => ?_)
 ·skip
  have hb' : 4 < m.buttons.length := by simp at hb; omega
  refine xp_seq ?_
  refine xp_region rfl ?_
  refine op_pure (pv_assign (v := .int .i64 _) rfl) ?_
  refine xp_ret ?_
  refine res_list (vs := [_]) Try.results90 ⟨resV_tmp rfl rfl, trivial⟩ fun V => ?_
  exact ⟨(ext_wl V), intE (by rw [pk1, if_pos hb'])⟩
 ·skip
  have hb' : ¬ 4 < m.buttons.length := by simp at hb; omega
  refine xp_skip ?_
  refine xp_seq ?_
  refine xp_seq ?_
  refine xp_region rfl ?_
  refine op_pure (pv_assign (v := .int .i64 _) rfl) ?_
  refine xp_block ?_
  refine xp_loopB [2, 3, 12, 13, 14, 15, 16, 17, 18, 19, 20, 21, 22, 23, 24, 25, 26, 27, 28] 1 (α := Nat) (fun k => [(3, .int .i64 k)]) (fun k => _) (fun k h_k => k ≤ m.buttons.length ∧ firstErr (checkButtonM m) (m.buttons.take k) = 0) (fun k => m.buttons.length - k) (0) ⟨rfl, trivial⟩ (rfl) (⟨Nat.zero_le _, rfl⟩) ?_
  rintro k T1 h_k E_k J_k
  refine goes_norm [_] rfl ?_
  obtain ⟨K1, K2⟩ := J_k
  refine xp_seq ?_
  refine xp_seq ?_
  refine xp_region rfl ?_
  refine op_pure (pv_move (v := .int .i64 _) rfl) ?_
  refine op_pure (pv_fieldAddr rfl rfl rfl rfl 5 rfl) ?_
  refine op_loadP 0 (v := .slice _ _ _) rfl rfl rfl rfl ?_
  refine op_pure (pv_len rfl rfl) ?_
  refine op_pure (pv_of (v := .bool _) rfl) ?_
  refine xp_cond rfl (fun hk => ?_) (fun hk => ?_)
  ·skip
   have hkl : k < m.buttons.length := ltI hk
   obtain ⟨g, off, hA, hc⟩ := (R.b.ext E_k).at (by omega) hkl
   refine xp_skip ?_
   refine xp_seq ?_
   refine xp_block ?_
   refine xp_seq ?_
   refine xp_dw [] rfl rfl rfl ?_
   refine dw_pure (i := 0) rfl (by decide +kernel) (pv_fieldAddr rfl rfl rfl rfl 5 rfl) ?_
   refine dw_load (i := 1) rfl (by decide +kernel) ?_
   refine op_loadP 0 (v := .slice _ _ _) rfl rfl rfl rfl ?_
   refine dw_pure (i := 2) rfl (by decide +kernel) (pv_move (v := .int .i64 _) rfl) ?_
   refine dw_pure (i := 3) rfl (by decide +kernel) (pv_indexE rfl hA rfl rfl rfl (by omega) (by omega)) ?_
   refine dw_load (i := 4) rfl (by decide +kernel) ?_
   refine op_load (v := .int .i64 _) rfl rfl ((hc) 0 _ rfl) ?_
   refine dw_pure (i := 5) rfl (by decide +kernel) (pv_fieldAddr rfl rfl rfl rfl 0 rfl) ?_
   refine dw_load (i := 6) rfl (by decide +kernel) ?_
   refine op_loadP 0 (v := .int .i64 _) rfl rfl rfl rfl ?_
   refine dw_pure (i := 7) rfl (by decide +kernel) (pv_arith rfl (by omega)) ?_
   refine dw_last (i := 8) rfl (by decide +kernel) (by decide +kernel) ?_
   refine op_fn (caps := []) (vs := [.int .i64 _, .int .i64 _, .int .i64 _]) rfl rfl rfl (among_ok _ _ _ h_k) ?_
   rintro _ h1 E1 rfl
   refine dw_pure (i := 9) rfl (by decide +kernel) (pv_of (v := .bool _) rfl) ?_
   refine dw_end rfl ?_
   refine xp_cond rfl (fun hw => ?_) (fun hw => ?_)
   ·skip
    have ew : checkButtonM m m.buttons[k] = 3 := by rw [checkButtonM, if_pos hw]
    refine xp_seq ?_
    refine xp_region rfl ?_
    refine op_pure (pv_assign (v := .int .i64 _) rfl) ?_
    refine xp_ret ?_
    refine res_list (vs := [_]) Try.results90 ⟨resV_tmp rfl rfl, trivial⟩ fun V => ?_
    refine ⟨(Ext.trans (Ext.trans E_k E1) (ext_wl V)), intE ?_⟩
    have ef := firstErr_stop hkl K2 (by rw [ew]; decide)
    rw [ew] at ef
    rw [pk1, if_neg hb', if_pos (by rw [ef]; decide), ef]
   ·skip
    refine xp_skip ?_
    refine xp_region rfl ?_
    refine op_pure (pv_move (v := .int .i64 _) rfl) ?_
    refine op_pure (pv_arith rfl (by omega)) ?_
    refine op_pure (pv_assign (v := .int .i64 _) rfl) ?_
    refine ⟨k + 1, ⟨rfl, trivial⟩, rfl, rfl, (Ext.trans E_k E1), fun h3 E3 => ⟨hkl, firstErr_go hkl K2 (by rw [checkButtonM, if_neg (by simpa using hw)])⟩, by first | omega | (dsimp only; omega), ?_⟩
    repeat (first | exact off_base _ _ _ | refine off_upd (by decide) ?_ | refine off_updL rfl ?_ | refine off_mix rfl ?_)
  ·skip
   have hke : k = m.buttons.length := by have := geI hk; omega
   subst hke
   rw [List.take_length] at K2
   have C2 : pk1 m = pk2 m := by rw [pk1, if_neg hb', if_neg (by simp [K2])]
   refine xp_exit ?_
   refine xp_seq ?_
   refine xp_seq ?_
   refine xp_region rfl ?_
   refine op_pure (pv_fieldAddr rfl rfl rfl rfl 6 rfl) ?_
   refine op_loadP 0 (v := .slice _ _ _) rfl rfl rfl rfl ?_
   refine op_pure (pv_len rfl rfl) ?_
   refine op_pure (pv_of (v := .bool _) rfl) ?_
   refine xp_cond rfl (fun hq => ?_) (fun hq => ?_)
   ·skip
    refine xp_seq ?_
    refine xp_region rfl ?_
    refine op_pure (pv_assign (v := .int .i64 _) rfl) ?_
    refine xp_ret ?_
    refine res_list (vs := [_]) Try.results90 ⟨resV_tmp rfl rfl, trivial⟩ fun V => ?_
    have hq' : 8 < m.pins.length := by simp at hq; omega
    exact ⟨(Ext.trans E_k (ext_wl V)), intE (by rw [C2, pk2, if_pos hq'])⟩
   ·skip
    have hq' : ¬ 8 < m.pins.length := by simp at hq; omega
    refine xp_skip ?_
    refine xp_seq ?_
    refine xp_seq ?_
    refine xp_region rfl ?_
    refine op_pure (pv_assign (v := .int .i64 _) rfl) ?_
    refine xp_block ?_
    refine xp_loopB [2, 4, 5, 33, 34, 35, 36, 37, 38, 39, 40, 41, 42, 43, 44, 45, 46, 47, 48, 49, 50, 51, 52, 53, 54, 55, 56, 57, 58, 59, 60, 61, 62, 63, 64, 65, 66] 1 (α := Nat) (fun j => [(4, .int .i64 j)]) (fun j => _) (fun j h_j => j ≤ m.pins.length ∧ firstErr (checkPinM m) (m.pins.take j) = 0) (fun j => m.pins.length - j) (0) ⟨rfl, trivial⟩ (rfl) (⟨Nat.zero_le _, rfl⟩) ?_
    rintro j T2 h_j E_j J_j
    refine goes_norm [_] rfl ?_
    obtain ⟨P1, P2⟩ := J_j
    refine xp_seq ?_
    refine xp_seq ?_
    refine xp_region rfl ?_
    refine op_pure (pv_move (v := .int .i64 _) rfl) ?_
    refine op_pure (pv_fieldAddr rfl rfl rfl rfl 6 rfl) ?_
    refine op_loadP 0 (v := .slice _ _ _) rfl rfl rfl rfl ?_
    refine op_pure (pv_len rfl rfl) ?_
    refine op_pure (pv_of (v := .bool _) rfl) ?_
    refine xp_cond rfl (fun hk2 => ?_) (fun hk2 => ?_)
    ·skip
     have hkl : j < m.pins.length := ltI hk2
     obtain ⟨g, off, hA, hc⟩ := (R.q.ext (Ext.trans E_k E_j)).at (by omega) hkl
     refine xp_skip ?_
     refine xp_seq ?_
     refine xp_block ?_
     refine xp_seq ?_
     refine xp_region rfl ?_
     refine op_pure (pv_fieldAddr rfl rfl rfl rfl 6 rfl) ?_
     refine op_loadP 0 (v := .slice _ _ _) rfl rfl rfl rfl ?_
     refine op_pure (pv_move (v := .int .i64 _) rfl) ?_
     refine op_pure (pv_indexE rfl hA rfl rfl rfl (by omega) (by omega)) ?_
     refine op_loadA rfl rfl rfl rfl (hc) ?_
     refine op_alloc (cs := [_, _, _]) rfl rfl fun b5 hb5 => ?_
     refine wp_norm [_, _] rfl ?_
     refine op_storeP 1 (v := .agg #[.int .i64 _, .int .i64 _, .int .i64 _]) (vs := [_, _, _]) (c' := [_, _, _]) rfl rfl rfl rfl rfl rfl rfl rfl rfl ?_
     refine wp_norm [_, _] rfl ?_
     refine xp_seq ?_
     refine xp_seq ?_
     refine xp_region rfl ?_
     refine op_pure (pv_fieldAddr rfl rfl rfl rfl 0 rfl) ?_
     refine op_loadP 1 (v := .int .i64 _) rfl rfl rfl rfl ?_
     refine op_pure (pv_fieldAddr rfl rfl rfl rfl 0 rfl) ?_
     refine op_loadP 0 (v := .int .i64 _) rfl rfl rfl rfl ?_
     refine op_pure (pv_arith rfl (by omega)) ?_
     refine op_fn (caps := []) (vs := [.int .i64 _, .int .i64 _, .int .i64 _]) rfl rfl rfl (among_ok _ _ _ h_j) ?_
     rintro _ h1 E1 rfl
     rcases Bool.eq_false_or_eq_true (inM m.pins[j].rod 0 (m.rods - 1)) with e1 | e1
     ·skip
      have e1' : (!inM m.pins[j].rod 0 (m.rods - 1)) = false := by rw [e1]; rfl
      refine op_pure (pv_of (v := .bool _) rfl) ?_
      refine op_pure (pv_move (v := .bool _) rfl) ?_
      refine guard_yes rfl e1' ?_
      refine op_pure (pv_fieldAddr rfl rfl rfl rfl 1 rfl) ?_
      refine guard_yes rfl e1' ?_
      refine op_loadP 1 (v := .int .i64 _) rfl rfl rfl rfl ?_
      refine guard_yes rfl e1' ?_
      refine op_pure (pv_fieldAddr rfl rfl rfl rfl 1 rfl) ?_
      refine guard_yes rfl e1' ?_
      refine op_loadP 0 (v := .int .i64 _) rfl rfl rfl rfl ?_
      refine guard_yes rfl e1' ?_
      refine op_pure (pv_arith rfl (by omega)) ?_
      refine guard_yes rfl e1' ?_
      refine op_fn (caps := []) (vs := [.int .i64 _, .int .i64 _, .int .i64 _]) rfl rfl rfl (among_ok _ _ _ h1) ?_
      rintro _ h2 E2 rfl
      refine guard_yes rfl e1' ?_
      refine op_pure (pv_of (v := .bool _) rfl) ?_
      refine op_pure (pv_pickF rfl e1' (v := .bool _) rfl) ?_
      refine xp_cond rfl (fun hw => ?_) (fun hw => ?_)
      ·skip
       have ew : checkPinM m m.pins[j] = 3 := by rw [checkPinM, if_neg (by rw [e1']; decide), if_pos hw]
       refine xp_seq ?_
       refine xp_region rfl ?_
       refine op_pure (pv_assign (v := .int .i64 _) rfl) ?_
       refine xp_ret ?_
       refine res_list (vs := [_]) Try.results90 ⟨resV_tmp rfl rfl, trivial⟩ fun V => ?_
       refine ⟨(Ext.trans (Ext.trans (Ext.trans (Ext.trans E_k E_j) E1) E2) (ext_wl V)), intE ?_⟩
       have ef := firstErr_stop hkl P2 (by rw [ew]; decide)
       rw [ew] at ef
       rw [C2, pk2, if_neg hq', if_pos (by rw [ef]; decide), ef]
      ·skip
       refine xp_skip ?_
       refine xp_seq ?_
       refine xp_region rfl ?_
       refine op_pure (pv_fieldAddr rfl rfl rfl rfl 2 rfl) ?_
       refine op_loadP 1 (v := .int .i64 _) rfl rfl rfl rfl ?_
       refine op_pure (pv_fieldAddr rfl rfl rfl rfl 3 rfl) ?_
       refine op_loadP 0 (v := .int .i64 _) rfl rfl rfl rfl ?_
       refine op_fn (caps := []) (vs := [.int .i64 _, .int .i64 _, .int .i64 _]) rfl rfl rfl (among_ok _ _ _ h2) ?_
       rintro _ h3 E3 rfl
       refine op_pure (pv_of (v := .bool _) rfl) ?_
       refine xp_cond rfl (fun hw2 => ?_) (fun hw2 => ?_)
       ·skip
        have ew : checkPinM m m.pins[j] = 1 := by rw [checkPinM, if_neg (by rw [e1']; decide), if_neg (by rw [hw]; decide), if_pos hw2]
        refine xp_seq ?_
        refine xp_region rfl ?_
        refine op_pure (pv_assign (v := .int .i64 _) rfl) ?_
        refine xp_ret ?_
        refine res_list (vs := [_]) Try.results90 ⟨resV_tmp rfl rfl, trivial⟩ fun V => ?_
        refine ⟨(Ext.trans (Ext.trans (Ext.trans (Ext.trans (Ext.trans E_k E_j) E1) E2) E3) (ext_wl V)), intE ?_⟩
        have ef := firstErr_stop hkl P2 (by rw [ew]; decide)
        rw [ew] at ef
        rw [C2, pk2, if_neg hq', if_pos (by rw [ef]; decide), ef]
       ·skip
        refine xp_skip ?_
        refine xp_region rfl ?_
        refine op_pure (pv_move (v := .int .i64 _) rfl) ?_
        refine op_pure (pv_arith rfl (by omega)) ?_
        refine op_pure (pv_assign (v := .int .i64 _) rfl) ?_
        refine ⟨j + 1, ⟨rfl, trivial⟩, rfl, rfl, (Ext.trans (Ext.trans (Ext.trans E_j E1) E2) E3), fun h3 E3 => ⟨hkl, firstErr_go hkl P2 (by rw [checkPinM, if_neg (by rw [e1']; decide), if_neg (by rw [hw]; decide), if_neg (by rw [hw2]; decide)])⟩, by first | omega | (dsimp only; omega), ?_⟩
        repeat (first | exact off_base _ _ _ | refine off_upd (by decide) ?_ | refine off_updL rfl ?_ | refine off_mix rfl ?_)
     ·skip
      have e1' : (!inM m.pins[j].rod 0 (m.rods - 1)) = true := by rw [e1]; rfl
      refine op_pure (pv_of (v := .bool _) rfl) ?_
      refine op_pure (pv_move (v := .bool _) rfl) ?_
      refine guard_no rfl e1' ?_
      refine guard_no rfl e1' ?_
      refine guard_no rfl e1' ?_
      refine guard_no rfl e1' ?_
      refine guard_no rfl e1' ?_
      refine guard_no rfl e1' ?_
      refine guard_no rfl e1' ?_
      refine op_pure (pv_pickT rfl e1' (v := .bool _) rfl) ?_
      refine xp_condT rfl (rfl) ?_
      have ew : checkPinM m m.pins[j] = 3 := by rw [checkPinM, if_pos e1']
      refine xp_seq ?_
      refine xp_region rfl ?_
      refine op_pure (pv_assign (v := .int .i64 _) rfl) ?_
      refine xp_ret ?_
      refine res_list (vs := [_]) Try.results90 ⟨resV_tmp rfl rfl, trivial⟩ fun V => ?_
      refine ⟨(Ext.trans (Ext.trans (Ext.trans E_k E_j) E1) (ext_wl V)), intE ?_⟩
      have ef := firstErr_stop hkl P2 (by rw [ew]; decide)
      rw [ew] at ef
      rw [C2, pk2, if_neg hq', if_pos (by rw [ef]; decide), ef]
    ·skip
     have hke : j = m.pins.length := by have := geI hk2; omega
     subst hke
     rw [List.take_length] at P2
     have C3 : pk1 m = pk3 m := by rw [C2, pk2, if_neg hq', if_neg (by simp [P2])]
     refine xp_exit ?_
     refine xp_seq ?_
     refine xp_seq ?_
     refine xp_region rfl ?_
     refine op_pure (pv_fieldAddr rfl rfl rfl rfl 7 rfl) ?_
     refine op_loadP 0 (v := .slice _ _ _) rfl rfl rfl rfl ?_
     refine op_pure (pv_len rfl rfl) ?_
     refine op_pure (pv_of (v := .bool _) rfl) ?_
     refine xp_cond rfl (fun hl => ?_) (fun hl => ?_)
     ·skip
      refine xp_seq ?_
      refine xp_region rfl ?_
      refine op_pure (pv_assign (v := .int .i64 _) rfl) ?_
      refine xp_ret ?_
      refine res_list (vs := [_]) Try.results90 ⟨resV_tmp rfl rfl, trivial⟩ fun V => ?_
      have hl' : 4 < m.links.length := by simp at hl; omega
      exact ⟨(Ext.trans (Ext.trans E_k E_j) (ext_wl V)), intE (by rw [C3, pk3, if_pos hl'])⟩
     ·skip
      have hl' : ¬ 4 < m.links.length := by simp at hl; omega
      have CL : pk1 m = firstErr (checkLinkM m) m.links := by rw [C3, pk3, if_neg hl']
      refine xp_skip ?_
      refine xp_seq ?_
      refine xp_seq ?_
      refine xp_region rfl ?_
      refine op_pure (pv_assign (v := .int .i64 _) rfl) ?_
      refine xp_block ?_
      refine xp_loopB [2, 6, 7, 71, 72, 73, 74, 75, 76, 77, 78, 79, 80, 81, 82, 83, 84, 85, 86, 87, 88, 89, 90, 91, 92, 93, 94, 95, 96, 97, 98, 99, 100, 101, 102, 103, 104, 105, 106, 107, 108, 109, 110, 111, 112, 113, 114, 115, 116] 1 (α := Nat) (fun i => [(6, .int .i64 i)]) (fun i => _) (fun i h_i => i ≤ m.links.length ∧ firstErr (checkLinkM m) (m.links.take i) = 0) (fun i => m.links.length - i) (0) ⟨rfl, trivial⟩ (rfl) (⟨Nat.zero_le _, rfl⟩) ?_
      rintro i T3 h_i E_i J_i
      refine goes_norm [_] rfl ?_
      obtain ⟨L1, L2⟩ := J_i
      refine xp_seq ?_
      refine xp_seq ?_
      refine xp_region rfl ?_
      refine op_pure (pv_move (v := .int .i64 _) rfl) ?_
      refine op_pure (pv_fieldAddr rfl rfl rfl rfl 7 rfl) ?_
      refine op_loadP 0 (v := .slice _ _ _) rfl rfl rfl rfl ?_
      refine op_pure (pv_len rfl rfl) ?_
      refine op_pure (pv_of (v := .bool _) rfl) ?_
      refine xp_cond rfl (fun hk3 => ?_) (fun hk3 => ?_)
      ·skip
       have hkl : i < m.links.length := ltI hk3
       obtain ⟨g, off, hA, hc⟩ := (R.l.ext (Ext.trans (Ext.trans E_k E_j) E_i)).at (by omega) hkl
       refine xp_skip ?_
       refine xp_seq ?_
       refine xp_block ?_
       refine xp_seq ?_
       refine xp_region rfl ?_
       refine op_pure (pv_fieldAddr rfl rfl rfl rfl 7 rfl) ?_
       refine op_loadP 0 (v := .slice _ _ _) rfl rfl rfl rfl ?_
       refine op_pure (pv_move (v := .int .i64 _) rfl) ?_
       refine op_pure (pv_indexE rfl hA rfl rfl rfl (by omega) (by omega)) ?_
       refine op_loadA rfl rfl rfl rfl (hc) ?_
       refine op_alloc (cs := [_, _, _, _]) rfl rfl fun b7 hb7 => ?_
       refine wp_norm [_, _] rfl ?_
       refine op_storeP 1 (v := .agg #[.int .i64 _, .int .i64 _, .int .i64 _, .int .i64 _]) (vs := [_, _, _, _]) (c' := [_, _, _, _]) rfl rfl rfl rfl rfl rfl rfl rfl rfl ?_
       refine wp_norm [_, _] rfl ?_
       refine xp_seq ?_
       refine xp_seq ?_
       refine xp_region rfl ?_
       refine op_pure (pv_fieldAddr rfl rfl rfl rfl 0 rfl) ?_
       refine op_loadP 1 (v := .int .i64 _) rfl rfl rfl rfl ?_
       refine op_pure (pv_fieldAddr rfl rfl rfl rfl 0 rfl) ?_
       refine op_loadP 0 (v := .int .i64 _) rfl rfl rfl rfl ?_
       refine op_pure (pv_arith rfl (by omega)) ?_
       refine op_fn (caps := []) (vs := [.int .i64 _, .int .i64 _, .int .i64 _]) rfl rfl rfl (among_ok _ _ _ h_i) ?_
       rintro _ h1 E1 rfl
       rcases Bool.eq_false_or_eq_true (inM m.links[i].frm 0 (m.rods - 1)) with e1 | e1
       ·skip
        have e1' : (!inM m.links[i].frm 0 (m.rods - 1)) = false := by rw [e1]; rfl
        refine op_pure (pv_of (v := .bool _) rfl) ?_
        refine op_pure (pv_move (v := .bool _) rfl) ?_
        refine guard_yes rfl e1' ?_
        refine op_pure (pv_fieldAddr rfl rfl rfl rfl 1 rfl) ?_
        refine guard_yes rfl e1' ?_
        refine op_loadP 1 (v := .int .i64 _) rfl rfl rfl rfl ?_
        refine guard_yes rfl e1' ?_
        refine op_pure (pv_fieldAddr rfl rfl rfl rfl 0 rfl) ?_
        refine guard_yes rfl e1' ?_
        refine op_loadP 0 (v := .int .i64 _) rfl rfl rfl rfl ?_
        refine guard_yes rfl e1' ?_
        refine op_pure (pv_arith rfl (by omega)) ?_
        refine guard_yes rfl e1' ?_
        refine op_fn (caps := []) (vs := [.int .i64 _, .int .i64 _, .int .i64 _]) rfl rfl rfl (among_ok _ _ _ h1) ?_
        rintro _ h2 E2 rfl
        refine guard_yes rfl e1' ?_
        refine op_pure (pv_of (v := .bool _) rfl) ?_
        refine op_pure (pv_pickF rfl e1' (v := .bool _) rfl) ?_
        refine xp_cond rfl (fun hw => ?_) (fun hw => ?_)
        ·skip
         have ew : checkLinkM m m.links[i] = 3 := by rw [checkLinkM, if_neg (by rw [e1']; decide), if_pos hw]
         refine xp_seq ?_
         refine xp_region rfl ?_
         refine op_pure (pv_assign (v := .int .i64 _) rfl) ?_
         refine xp_ret ?_
         refine res_list (vs := [_]) Try.results90 ⟨resV_tmp rfl rfl, trivial⟩ fun V => ?_
         refine ⟨(Ext.trans (Ext.trans (Ext.trans (Ext.trans (Ext.trans E_k E_j) E_i) E1) E2) (ext_wl V)), intE ?_⟩
         rw [CL, firstErr_stop hkl L2 (by rw [ew]; decide), ew]
        ·skip
         refine xp_skip ?_
         refine xp_seq ?_
         refine xp_seq ?_
         refine xp_region rfl ?_
         refine op_pure (pv_fieldAddr rfl rfl rfl rfl 0 rfl) ?_
         refine op_loadP 1 (v := .int .i64 _) rfl rfl rfl rfl ?_
         refine op_pure (pv_fieldAddr rfl rfl rfl rfl 1 rfl) ?_
         refine op_loadP 1 (v := .int .i64 _) rfl rfl rfl rfl ?_
         refine op_pure (pv_of (v := .bool _) rfl) ?_
         refine xp_cond rfl (fun hx => ?_) (fun hx => ?_)
         ·skip
          have hx' : m.links[i].frm = m.links[i].to := by simpa using hx
          have ew : checkLinkM m m.links[i] = 4 := by rw [checkLinkM, if_neg (by rw [e1']; decide), if_neg (by rw [hw]; decide), if_pos hx']
          refine xp_seq ?_
          refine xp_region rfl ?_
          refine op_pure (pv_assign (v := .int .i64 _) rfl) ?_
          refine xp_ret ?_
          refine res_list (vs := [_]) Try.results90 ⟨resV_tmp rfl rfl, trivial⟩ fun V => ?_
          refine ⟨(Ext.trans (Ext.trans (Ext.trans (Ext.trans (Ext.trans E_k E_j) E_i) E1) E2) (ext_wl V)), intE ?_⟩
          rw [CL, firstErr_stop hkl L2 (by rw [ew]; decide), ew]
         ·skip
          have hx' : ¬ m.links[i].frm = m.links[i].to := by simpa using hx
          refine xp_skip ?_
          refine xp_seq ?_
          refine xp_seq ?_
          refine xp_region rfl ?_
          refine op_pure (pv_fieldAddr rfl rfl rfl rfl 2 rfl) ?_
          refine op_loadP 1 (v := .int .i64 _) rfl rfl rfl rfl ?_
          refine op_pure (pv_fieldAddr rfl rfl rfl rfl 2 rfl) ?_
          refine op_loadP 0 (v := .int .i64 _) rfl rfl rfl rfl ?_
          refine op_pure (pv_arith rfl (by omega)) ?_
          refine op_fn (caps := []) (vs := [.int .i64 _, .int .i64 _, .int .i64 _]) rfl rfl rfl (among_ok _ _ _ h2) ?_
          rintro _ h3 E3 rfl
          refine op_pure (pv_of (v := .bool _) rfl) ?_
          refine xp_cond rfl (fun hw3 => ?_) (fun hw3 => ?_)
          ·skip
           have ew : checkLinkM m m.links[i] = 3 := by rw [checkLinkM, if_neg (by rw [e1']; decide), if_neg (by rw [hw]; decide), if_neg hx', if_pos hw3]
           refine xp_seq ?_
           refine xp_region rfl ?_
           refine op_pure (pv_assign (v := .int .i64 _) rfl) ?_
           refine xp_ret ?_
           refine res_list (vs := [_]) Try.results90 ⟨resV_tmp rfl rfl, trivial⟩ fun V => ?_
           refine ⟨(Ext.trans (Ext.trans (Ext.trans (Ext.trans (Ext.trans (Ext.trans E_k E_j) E_i) E1) E2) E3) (ext_wl V)), intE ?_⟩
           rw [CL, firstErr_stop hkl L2 (by rw [ew]; decide), ew]
          ·skip
           refine xp_skip ?_
           refine xp_seq ?_
           refine xp_region rfl ?_
           refine op_pure (pv_fieldAddr rfl rfl rfl rfl 3 rfl) ?_
           refine op_loadP 1 (v := .int .i64 _) rfl rfl rfl rfl ?_
           refine op_pure (pv_fieldAddr rfl rfl rfl rfl 3 rfl) ?_
           refine op_loadP 0 (v := .int .i64 _) rfl rfl rfl rfl ?_
           refine op_fn (caps := []) (vs := [.int .i64 _, .int .i64 _, .int .i64 _]) rfl rfl rfl (among_ok _ _ _ h3) ?_
           rintro _ h4 E4 rfl
           refine op_pure (pv_of (v := .bool _) rfl) ?_
           refine xp_cond rfl (fun hw4 => ?_) (fun hw4 => ?_)
           ·skip
            have ew : checkLinkM m m.links[i] = 1 := by rw [checkLinkM, if_neg (by rw [e1']; decide), if_neg (by rw [hw]; decide), if_neg hx', if_neg (by rw [hw3]; decide), if_pos hw4]
            refine xp_seq ?_
            refine xp_region rfl ?_
            refine op_pure (pv_assign (v := .int .i64 _) rfl) ?_
            refine xp_ret ?_
            refine res_list (vs := [_]) Try.results90 ⟨resV_tmp rfl rfl, trivial⟩ fun V => ?_
            refine ⟨(Ext.trans (Ext.trans (Ext.trans (Ext.trans (Ext.trans (Ext.trans (Ext.trans E_k E_j) E_i) E1) E2) E3) E4) (ext_wl V)), intE ?_⟩
            rw [CL, firstErr_stop hkl L2 (by rw [ew]; decide), ew]
           ·skip
            refine xp_skip ?_
            refine xp_region rfl ?_
            refine op_pure (pv_move (v := .int .i64 _) rfl) ?_
            refine op_pure (pv_arith rfl (by omega)) ?_
            refine op_pure (pv_assign (v := .int .i64 _) rfl) ?_
            refine ⟨i + 1, ⟨rfl, trivial⟩, rfl, rfl, (Ext.trans (Ext.trans (Ext.trans (Ext.trans E_i E1) E2) E3) E4), fun h3 E3 => ⟨hkl, firstErr_go hkl L2 (by rw [checkLinkM, if_neg (by rw [e1']; decide), if_neg (by rw [hw]; decide), if_neg hx', if_neg (by rw [hw3]; decide), if_neg (by rw [hw4]; decide)])⟩, by first | omega | (dsimp only; omega), ?_⟩
            repeat (first | exact off_base _ _ _ | refine off_upd (by decide) ?_ | refine off_updL rfl ?_ | refine off_mix rfl ?_)
       ·skip
        have e1' : (!inM m.links[i].frm 0 (m.rods - 1)) = true := by rw [e1]; rfl
        refine op_pure (pv_of (v := .bool _) rfl) ?_
        refine op_pure (pv_move (v := .bool _) rfl) ?_
        refine guard_no rfl e1' ?_
        refine guard_no rfl e1' ?_
        refine guard_no rfl e1' ?_
        refine guard_no rfl e1' ?_
        refine guard_no rfl e1' ?_
        refine guard_no rfl e1' ?_
        refine guard_no rfl e1' ?_
        refine op_pure (pv_pickT rfl e1' (v := .bool _) rfl) ?_
        refine xp_condT rfl (rfl) ?_
        have ew : checkLinkM m m.links[i] = 3 := by rw [checkLinkM, if_pos e1']
        refine xp_seq ?_
        refine xp_region rfl ?_
        refine op_pure (pv_assign (v := .int .i64 _) rfl) ?_
        refine xp_ret ?_
        refine res_list (vs := [_]) Try.results90 ⟨resV_tmp rfl rfl, trivial⟩ fun V => ?_
        refine ⟨(Ext.trans (Ext.trans (Ext.trans (Ext.trans E_k E_j) E_i) E1) (ext_wl V)), intE ?_⟩
        rw [CL, firstErr_stop hkl L2 (by rw [ew]; decide), ew]
      ·skip
       have hke : i = m.links.length := by have := geI hk3; omega
       subst hke
       rw [List.take_length] at L2
       refine xp_exit ?_
       refine xp_seq ?_
       refine xp_region rfl ?_
       refine op_pure (pv_assign (v := .int .i64 _) rfl) ?_
       refine xp_ret ?_
       refine res_list (vs := [_]) Try.results90 ⟨resV_tmp rfl rfl, trivial⟩ fun V => ?_
       exact ⟨(Ext.trans (Ext.trans (Ext.trans E_k E_j) E_i) (ext_wl V)), intE (by rw [CL, L2])⟩
set_option maxHeartbeats 4000000 in
theorem CheckG_ok (m : MachP) (AB AQ AL AW : Option Addr) (cB cQ cL cW : Nat) (h : AH) (R : MachR h AB AQ AL AW m) (h0 : m.weights.length < 2 ^ 40) (h1 : m.buttons.length < 2 ^ 40) (h2 : m.pins.length < 2 ^ 40) (h3 : m.links.length < 2 ^ 40) :
  FnT Try.prog 39 #[machV AB AQ AL AW cB cQ cL cW m] h (fun v _ => v = .int .i64 (chkM m)) := by
 refine call_body Try.func39 rfl Try.ntmps39 rfl ?_
 refine xp_seq ?_
 refine xp_region rfl ?_
 refine op_box (v := .agg #[.int .i64 _, .int .i64 _, .int .i64 _, .int .i64 _, .int .i64 _, .slice _ _ _, .slice _ _ _, .slice _ _ _, .slice _ _ _]) (cs := [_, _, _, _, _, _, _, _, _]) rfl rfl fun b1 hb1 => ?_
 refine wp_norm [_] rfl ?_
 refine op_pure (pv_assign (v := .int .i64 _) rfl) ?_
 refine xp_seq ?_
 refine xp_seq ?_
 refine xp_region rfl ?_
 refine op_pure (pv_fieldAddr rfl rfl rfl rfl 0 rfl) ?_
 refine op_loadP 0 (v := .int .i64 _) rfl rfl rfl rfl ?_
 refine op_fn (caps := []) (vs := [.int .i64 _, .int .i64 _, .int .i64 _]) rfl rfl rfl (among_ok _ _ _ h) ?_
 rintro _ h4 E4 rfl
 rcases Bool.eq_false_or_eq_true (inM m.rods 1 6) with e1 | e1
 ·skip
  have e1' : (!inM m.rods 1 6) = false := by rw [e1]; rfl
  refine op_pure (pv_of (v := .bool _) rfl) ?_
  refine op_pure (pv_move (v := .bool _) rfl) ?_
  refine guard_yes rfl e1' ?_
  refine op_pure (pv_fieldAddr rfl rfl rfl rfl 1 rfl) ?_
  refine guard_yes rfl e1' ?_
  refine op_loadP 0 (v := .int .i64 _) rfl rfl rfl rfl ?_
  refine guard_yes rfl e1' ?_
  refine op_fn (caps := []) (vs := [.int .i64 _, .int .i64 _, .int .i64 _]) rfl rfl rfl (among_ok _ _ _ h4) ?_
  rintro _ h5 E5 rfl
  rcases Bool.eq_false_or_eq_true (inM m.levers 1 6) with e2 | e2
  ·skip
   have e2' : (!inM m.levers 1 6) = false := by rw [e2]; rfl
   refine guard_yes rfl e1' ?_
   refine op_pure (pv_of (v := .bool _) rfl) ?_
   refine op_pure (pv_pickF rfl e1' (v := .bool _) rfl) ?_
   refine op_pure (pv_move (v := .bool _) rfl) ?_
   refine guard_yes rfl e2' ?_
   refine op_pure (pv_fieldAddr rfl rfl rfl rfl 2 rfl) ?_
   refine guard_yes rfl e2' ?_
   refine op_loadP 0 (v := .int .i64 _) rfl rfl rfl rfl ?_
   refine guard_yes rfl e2' ?_
   refine op_fn (caps := []) (vs := [.int .i64 _, .int .i64 _, .int .i64 _]) rfl rfl rfl (among_ok _ _ _ h5) ?_
   rintro _ h6 E6 rfl
   rcases Bool.eq_false_or_eq_true (inM m.regs 0 2) with e3 | e3
   ·skip
    have e3' : (!inM m.regs 0 2) = false := by rw [e3]; rfl
    refine guard_yes rfl e2' ?_
    refine op_pure (pv_of (v := .bool _) rfl) ?_
    refine op_pure (pv_pickF rfl e2' (v := .bool _) rfl) ?_
    refine op_pure (pv_move (v := .bool _) rfl) ?_
    refine guard_yes rfl e3' ?_
    refine op_pure (pv_fieldAddr rfl rfl rfl rfl 3 rfl) ?_
    refine guard_yes rfl e3' ?_
    refine op_loadP 0 (v := .int .i64 _) rfl rfl rfl rfl ?_
    refine guard_yes rfl e3' ?_
    refine op_fn (caps := []) (vs := [.int .i64 _, .int .i64 _, .int .i64 _]) rfl rfl rfl (among_ok _ _ _ h6) ?_
    rintro _ h7 E7 rfl
    rcases Bool.eq_false_or_eq_true (inM m.travel 1 12) with e4 | e4
    ·skip
     have e4' : (!inM m.travel 1 12) = false := by rw [e4]; rfl
     refine guard_yes rfl e3' ?_
     refine op_pure (pv_of (v := .bool _) rfl) ?_
     refine op_pure (pv_pickF rfl e3' (v := .bool _) rfl) ?_
     refine op_pure (pv_move (v := .bool _) rfl) ?_
     refine guard_yes rfl e4' ?_
     refine op_pure (pv_fieldAddr rfl rfl rfl rfl 4 rfl) ?_
     refine guard_yes rfl e4' ?_
     refine op_loadP 0 (v := .int .i64 _) rfl rfl rfl rfl ?_
     refine guard_yes rfl e4' ?_
     refine op_pure (pv_fieldAddr rfl rfl rfl rfl 3 rfl) ?_
     refine guard_yes rfl e4' ?_
     refine op_loadP 0 (v := .int .i64 _) rfl rfl rfl rfl ?_
     refine guard_yes rfl e4' ?_
     refine op_fn (caps := []) (vs := [.int .i64 _, .int .i64 _, .int .i64 _]) rfl rfl rfl (among_ok _ _ _ h7) ?_
     rintro _ h8 E8 rfl
     refine guard_yes rfl e4' ?_
     refine op_pure (pv_of (v := .bool _) rfl) ?_
     refine op_pure (pv_pickF rfl e4' (v := .bool _) rfl) ?_
     refine xp_cond rfl (fun hh => ?_) (fun hh => ?_)
     ·skip
      refine xp_seq ?_
      refine xp_region rfl ?_
      refine op_pure (pv_assign (v := .int .i64 _) rfl) ?_
      refine xp_ret ?_
      refine res_list (vs := [_]) Try.results39 ⟨resV_tmp rfl rfl, trivial⟩ fun V => ?_
      exact ⟨(Ext.trans (Ext.trans (Ext.trans (Ext.trans (Ext.trans E4 E5) E6) E7) E8) (ext_wl V)), intE (by unfold chkM; rw [if_neg (by rw [e1']; decide), if_neg (by rw [e2']; decide), if_neg (by rw [e3']; decide), if_neg (by rw [e4']; decide), if_pos hh])⟩
     ·skip
      have e5 : inM m.opn 1 m.travel = true := by simpa using hh
      have C1 := chk_head e1 e2 e3 e4 e5
      have b1 := inM_iff.1 e1
      have b2 := inM_iff.1 e2
      have b3 := inM_iff.1 e3
      have b4 := inM_iff.1 e4
      refine xp_skip ?_
      refine xp_seq ?_
      refine xp_seq ?_
      refine xp_region rfl ?_
      refine op_loadPA 0 (vs := [.int .i64 _, .int .i64 _, .int .i64 _, .int .i64 _, .int .i64 _, .slice _ _ _, .slice _ _ _, .slice _ _ _, .slice _ _ _]) rfl rfl rfl rfl rfl ?_
      refine op_fn (caps := []) (vs := [.agg #[.int .i64 _, .int .i64 _, .int .i64 _, .int .i64 _, .int .i64 _, .slice _ _ _, .slice _ _ _, .slice _ _ _, .slice _ _ _]]) rfl rfl rfl (checkPartsG_ok m b1 b2 b3 b4 AB AQ AL AW cB cQ cL cW h8 (R.ext (Ext.trans (Ext.trans (Ext.trans (Ext.trans E4 E5) E6) E7) E8)) h1 h2 h3) ?_
      rintro _ h9 E9 rfl
      refine op_pure (pv_assign (v := .int .i64 _) rfl) ?_
      refine xp_seq ?_
      refine xp_region rfl ?_
      refine op_pure (pv_move (v := .int .i64 _) rfl) ?_
      refine op_pure (pv_of (v := .bool _) rfl) ?_
      refine xp_cond rfl (fun hp => ?_) (fun hp => ?_)
      ·skip
       have hp' : pk1 m ≠ 0 := by simpa using hp
       refine xp_seq ?_
       refine xp_region rfl ?_
       refine op_pure (pv_move (v := .int .i64 _) rfl) ?_
       refine op_pure (pv_assign (v := .int .i64 _) rfl) ?_
       refine xp_ret ?_
       refine res_list (vs := [_]) Try.results39 ⟨resV_tmp rfl rfl, trivial⟩ fun V => ?_
       exact ⟨(Ext.trans (Ext.trans (Ext.trans (Ext.trans (Ext.trans (Ext.trans E4 E5) E6) E7) E8) E9) (ext_wl V)), intE (by rw [C1, pk_chk, if_pos hp'])⟩
      ·skip
       have hp' : ¬ pk1 m ≠ 0 := by simpa using hp
       have C4 : chkM m = chk4 m := by rw [C1, pk_chk, if_neg hp']
       refine xp_skip ?_
       refine xp_seq ?_
       refine xp_seq ?_
       refine xp_region rfl ?_
       refine op_pure (pv_fieldAddr rfl rfl rfl rfl 8 rfl) ?_
       refine op_loadP 0 (v := .slice _ _ _) rfl rfl rfl rfl ?_
       refine op_pure (pv_len rfl rfl) ?_
       refine op_pure (pv_fieldAddr rfl rfl rfl rfl 1 rfl) ?_
       refine op_loadP 0 (v := .int .i64 _) rfl rfl rfl rfl ?_
       refine op_pure (pv_of (v := .bool _) rfl) ?_
       refine xp_cond rfl (fun hw => ?_) (fun hw => ?_)
       ·skip
        refine xp_seq ?_
        refine xp_region rfl ?_
        refine op_pure (pv_assign (v := .int .i64 _) rfl) ?_
        refine xp_ret ?_
        refine res_list (vs := [_]) Try.results39 ⟨resV_tmp rfl rfl, trivial⟩ fun V => ?_
        have hw' : ¬ (m.weights.length : Int) = m.levers := by simpa using hw
        exact ⟨(Ext.trans (Ext.trans (Ext.trans (Ext.trans (Ext.trans (Ext.trans E4 E5) E6) E7) E8) E9) (ext_wl V)), intE (by rw [C4, chk4, if_pos hw'])⟩
       ·skip
        have hw' : (m.weights.length : Int) = m.levers := by simpa using hw
        refine xp_skip ?_
        refine xp_seq ?_
        refine xp_seq ?_
        refine xp_region rfl ?_
        refine op_pure (pv_assign (v := .int .i64 _) rfl) ?_
        refine xp_block ?_
        refine xp_loopB [2, 4, 46, 47, 48, 49, 50, 51, 52, 53, 54, 55, 56, 57, 58, 59] 1 (α := Nat) (fun o => [(4, .int .i64 o)]) (fun o => _) (fun o h_o => o ≤ m.weights.length ∧ firstErr checkWeightM (m.weights.take o) = 0) (fun o => m.weights.length - o) (0) ⟨rfl, trivial⟩ (rfl) (⟨Nat.zero_le _, rfl⟩) ?_
        rintro o T1 h_o E_o J_o
        refine goes_norm [_] rfl ?_
        obtain ⟨W1, W2⟩ := J_o
        refine xp_seq ?_
        refine xp_seq ?_
        refine xp_region rfl ?_
        refine op_pure (pv_move (v := .int .i64 _) rfl) ?_
        refine op_pure (pv_fieldAddr rfl rfl rfl rfl 8 rfl) ?_
        refine op_loadP 0 (v := .slice _ _ _) rfl rfl rfl rfl ?_
        refine op_pure (pv_len rfl rfl) ?_
        refine op_pure (pv_of (v := .bool _) rfl) ?_
        refine xp_cond rfl (fun hk4 => ?_) (fun hk4 => ?_)
        ·skip
         have hkl : o < m.weights.length := ltI hk4
         obtain ⟨g, off, hA, hc⟩ := (R.w.ext (Ext.trans (Ext.trans (Ext.trans (Ext.trans (Ext.trans (Ext.trans E4 E5) E6) E7) E8) E9) E_o)).at (by omega) hkl
         refine xp_skip ?_
         refine xp_seq ?_
         refine xp_block ?_
         refine xp_seq ?_
         refine xp_region rfl ?_
         refine op_pure (pv_fieldAddr rfl rfl rfl rfl 8 rfl) ?_
         refine op_loadP 0 (v := .slice _ _ _) rfl rfl rfl rfl ?_
         refine op_pure (pv_move (v := .int .i64 _) rfl) ?_
         refine op_pure (pv_indexE rfl hA rfl rfl rfl (by omega) (by omega)) ?_
         refine op_load (v := .int .i64 _) rfl rfl ((hc) 0 _ rfl) ?_
         refine op_fn (caps := []) (vs := [.int .i64 _, .int .i64 _, .int .i64 _]) rfl rfl rfl (among_ok _ _ _ h_o) ?_
         rintro _ h10 E10 rfl
         refine op_pure (pv_of (v := .bool _) rfl) ?_
         refine xp_cond rfl (fun hz => ?_) (fun hz => ?_)
         ·skip
          have ew : checkWeightM m.weights[o] = 1 := by rw [checkWeightM, if_pos hz]
          refine xp_seq ?_
          refine xp_region rfl ?_
          refine op_pure (pv_assign (v := .int .i64 _) rfl) ?_
          refine xp_ret ?_
          refine res_list (vs := [_]) Try.results39 ⟨resV_tmp rfl rfl, trivial⟩ fun V => ?_
          refine ⟨(Ext.trans (Ext.trans (Ext.trans (Ext.trans (Ext.trans (Ext.trans (Ext.trans (Ext.trans E4 E5) E6) E7) E8) E9) E_o) E10) (ext_wl V)), intE ?_⟩
          have ef := firstErr_stop hkl W2 (by rw [ew]; decide)
          rw [ew] at ef
          rw [C4, chk4, if_neg (by simpa using hw'), ef]
         ·skip
          refine xp_skip ?_
          refine xp_region rfl ?_
          refine op_pure (pv_move (v := .int .i64 _) rfl) ?_
          refine op_pure (pv_arith rfl (by omega)) ?_
          refine op_pure (pv_assign (v := .int .i64 _) rfl) ?_
          refine ⟨o + 1, ⟨rfl, trivial⟩, rfl, rfl, (Ext.trans E_o E10), fun h3 E3 => ⟨hkl, firstErr_go hkl W2 (by rw [checkWeightM, if_neg (by simpa using hz)])⟩, by first | omega | (dsimp only; omega), ?_⟩
          repeat (first | exact off_base _ _ _ | refine off_upd (by decide) ?_ | refine off_updL rfl ?_ | refine off_mix rfl ?_)
        ·skip
         have hke : o = m.weights.length := by have := geI hk4; omega
         subst hke
         rw [List.take_length] at W2
         refine xp_exit ?_
         refine xp_seq ?_
         refine xp_region rfl ?_
         refine op_pure (pv_assign (v := .int .i64 _) rfl) ?_
         refine xp_ret ?_
         refine res_list (vs := [_]) Try.results39 ⟨resV_tmp rfl rfl, trivial⟩ fun V => ?_
         exact ⟨(Ext.trans (Ext.trans (Ext.trans (Ext.trans (Ext.trans (Ext.trans (Ext.trans E4 E5) E6) E7) E8) E9) E_o) (ext_wl V)), intE (by rw [C4, chk4, if_neg (by simpa using hw'), W2])⟩
    ·skip
     have e4' : (!inM m.travel 1 12) = true := by rw [e4]; rfl
     refine guard_yes rfl e3' ?_
     refine op_pure (pv_of (v := .bool _) rfl) ?_
     refine op_pure (pv_pickF rfl e3' (v := .bool _) rfl) ?_
     refine op_pure (pv_move (v := .bool _) rfl) ?_
     refine guard_no rfl e4' ?_
     refine guard_no rfl e4' ?_
     refine guard_no rfl e4' ?_
     refine guard_no rfl e4' ?_
     refine guard_no rfl e4' ?_
     refine guard_no rfl e4' ?_
     refine op_pure (pv_pickT rfl e4' (v := .bool _) rfl) ?_
     refine xp_condT rfl (rfl) ?_
     refine xp_seq ?_
     refine xp_region rfl ?_
     refine op_pure (pv_assign (v := .int .i64 _) rfl) ?_
     refine xp_ret ?_
     refine res_list (vs := [_]) Try.results39 ⟨resV_tmp rfl rfl, trivial⟩ fun V => ?_
     exact ⟨(Ext.trans (Ext.trans (Ext.trans (Ext.trans E4 E5) E6) E7) (ext_wl V)), intE (by unfold chkM; rw [if_neg (by rw [e1']; decide), if_neg (by rw [e2']; decide), if_neg (by rw [e3']; decide), if_pos e4'])⟩
   ·skip
    have e3' : (!inM m.regs 0 2) = true := by rw [e3]; rfl
    refine guard_yes rfl e2' ?_
    refine op_pure (pv_of (v := .bool _) rfl) ?_
    refine op_pure (pv_pickF rfl e2' (v := .bool _) rfl) ?_
    refine op_pure (pv_move (v := .bool _) rfl) ?_
    refine guard_no rfl e3' ?_
    refine guard_no rfl e3' ?_
    refine guard_no rfl e3' ?_
    refine guard_no rfl e3' ?_
    refine op_pure (pv_pickT rfl e3' (v := .bool _) rfl) ?_
    refine op_pure (pv_move (v := .bool _) rfl) ?_
    refine guard_no rfl rfl ?_
    refine guard_no rfl rfl ?_
    refine guard_no rfl rfl ?_
    refine guard_no rfl rfl ?_
    refine guard_no rfl rfl ?_
    refine guard_no rfl rfl ?_
    refine op_pure (pv_pickT rfl rfl (v := .bool _) rfl) ?_
    refine xp_condT rfl (rfl) ?_
    refine xp_seq ?_
    refine xp_region rfl ?_
    refine op_pure (pv_assign (v := .int .i64 _) rfl) ?_
    refine xp_ret ?_
    refine res_list (vs := [_]) Try.results39 ⟨resV_tmp rfl rfl, trivial⟩ fun V => ?_
    exact ⟨(Ext.trans (Ext.trans (Ext.trans E4 E5) E6) (ext_wl V)), intE (by unfold chkM; rw [if_neg (by rw [e1']; decide), if_neg (by rw [e2']; decide), if_pos e3'])⟩
  ·skip
   have e2' : (!inM m.levers 1 6) = true := by rw [e2]; rfl
   refine guard_yes rfl e1' ?_
   refine op_pure (pv_of (v := .bool _) rfl) ?_
   refine op_pure (pv_pickF rfl e1' (v := .bool _) rfl) ?_
   refine op_pure (pv_move (v := .bool _) rfl) ?_
   refine guard_no rfl e2' ?_
   refine guard_no rfl e2' ?_
   refine guard_no rfl e2' ?_
   refine guard_no rfl e2' ?_
   refine op_pure (pv_pickT rfl e2' (v := .bool _) rfl) ?_
   refine op_pure (pv_move (v := .bool _) rfl) ?_
   refine guard_no rfl rfl ?_
   refine guard_no rfl rfl ?_
   refine guard_no rfl rfl ?_
   refine guard_no rfl rfl ?_
   refine op_pure (pv_pickT rfl rfl (v := .bool _) rfl) ?_
   refine op_pure (pv_move (v := .bool _) rfl) ?_
   refine guard_no rfl rfl ?_
   refine guard_no rfl rfl ?_
   refine guard_no rfl rfl ?_
   refine guard_no rfl rfl ?_
   refine guard_no rfl rfl ?_
   refine guard_no rfl rfl ?_
   refine op_pure (pv_pickT rfl rfl (v := .bool _) rfl) ?_
   refine xp_condT rfl (rfl) ?_
   refine xp_seq ?_
   refine xp_region rfl ?_
   refine op_pure (pv_assign (v := .int .i64 _) rfl) ?_
   refine xp_ret ?_
   refine res_list (vs := [_]) Try.results39 ⟨resV_tmp rfl rfl, trivial⟩ fun V => ?_
   exact ⟨(Ext.trans (Ext.trans E4 E5) (ext_wl V)), intE (by unfold chkM; rw [if_neg (by rw [e1']; decide), if_pos e2'])⟩
 ·skip
  have e1' : (!inM m.rods 1 6) = true := by rw [e1]; rfl
  refine op_pure (pv_of (v := .bool _) rfl) ?_
  refine op_pure (pv_move (v := .bool _) rfl) ?_
  refine guard_no rfl e1' ?_
  refine guard_no rfl e1' ?_
  refine guard_no rfl e1' ?_
  refine guard_no rfl e1' ?_
  refine op_pure (pv_pickT rfl e1' (v := .bool _) rfl) ?_
  refine op_pure (pv_move (v := .bool _) rfl) ?_
  refine guard_no rfl rfl ?_
  refine guard_no rfl rfl ?_
  refine guard_no rfl rfl ?_
  refine guard_no rfl rfl ?_
  refine op_pure (pv_pickT rfl rfl (v := .bool _) rfl) ?_
  refine op_pure (pv_move (v := .bool _) rfl) ?_
  refine guard_no rfl rfl ?_
  refine guard_no rfl rfl ?_
  refine guard_no rfl rfl ?_
  refine guard_no rfl rfl ?_
  refine op_pure (pv_pickT rfl rfl (v := .bool _) rfl) ?_
  refine op_pure (pv_move (v := .bool _) rfl) ?_
  refine guard_no rfl rfl ?_
  refine guard_no rfl rfl ?_
  refine guard_no rfl rfl ?_
  refine guard_no rfl rfl ?_
  refine guard_no rfl rfl ?_
  refine guard_no rfl rfl ?_
  refine op_pure (pv_pickT rfl rfl (v := .bool _) rfl) ?_
  refine xp_condT rfl (rfl) ?_
  refine xp_seq ?_
  refine xp_region rfl ?_
  refine op_pure (pv_assign (v := .int .i64 _) rfl) ?_
  refine xp_ret ?_
  refine res_list (vs := [_]) Try.results39 ⟨resV_tmp rfl rfl, trivial⟩ fun V => ?_
  exact ⟨(Ext.trans E4 (ext_wl V)), intE (by unfold chkM; rw [if_pos e1'])⟩
end
end Go.Proofs.Ythphpbdmbmiaiaa
/- Walks of package rod: Chord. Conditions: as each theorem states. -/
namespace Go.Proofs.Ythphpbdmbmiaiaa
open Go Go.HL Go.Proofs Go.Wx Go.Rd
section
variable [Lvl]
set_option maxRecDepth 100000
def ChoI (P : List Int → Bool) (n : Nat) (p3 p4 p10 p11 : Nat × Obj) (b6 b7 l : Nat) (t6 t7 : TypeId) (r : Loop) (h0 : AH) (k : Nat) (h : AH) (M : Pv) : Prop :=
 Ext h0 h ∧ (∀ i s, i < k → (setsM n)[i]? = some s → P s = false) ∧
  M = [some p3, some p4, some (b6, .cells #[.slice none 0 0] t6 (0, 0)), some (b7, .cells #[.int .i64 0] t7 (0, 0)), some p10, some p11, some (l, obL r .ready none)]
def ChoF (P : List Int → Bool) (n : Nat) (p3 p4 p10 p11 : Nat × Obj) (b6 b7 l : Nat) (t6 t7 : TypeId) (r : Loop) (h0 : AH) (h : AH) (M : Pv) : Prop :=
 Ext h0 h ∧ ∃ (x : List Int) (BA : Option Addr) (cB : Nat), (setsM n).find? P = some x ∧ Row h 1 intC BA x ∧
  M = [some p3, some p4, some (b6, .cells #[.slice BA x.length cB] t6 (0, 0)), some (b7, .cells #[.int .i64 0] t7 (0, 0)), some p10, some p11, some (l, obL r .done (some .ret))]
theorem ChoI.ext {P : List Int → Bool} {n : Nat} {p3 p4 p10 p11 : Nat × Obj} {b6 b7 l : Nat} {t6 t7 : TypeId} {r : Loop} {h0 h h' : AH} {k : Nat} {M : Pv} (I : ChoI P n p3 p4 p10 p11 b6 b7 l t6 t7 r h0 k h M) (E : Ext h h') : ChoI P n p3 p4 p10 p11 b6 b7 l t6 t7 r h0 k h' M := ⟨I.1.trans E, I.2⟩
theorem ChoF.ext {P : List Int → Bool} {n : Nat} {p3 p4 p10 p11 : Nat × Obj} {b6 b7 l : Nat} {t6 t7 : TypeId} {r : Loop} {h0 h h' : AH} {M : Pv} (I : ChoF P n p3 p4 p10 p11 b6 b7 l t6 t7 r h0 h M) (E : Ext h h') : ChoF P n p3 p4 p10 p11 b6 b7 l t6 t7 r h0 h' M := by
 obtain ⟨E0, x, BA, cB, e1, R1, e2⟩ := I
 exact ⟨E0.trans E, x, BA, cB, e1, R1.ext E, e2⟩
end
end Go.Proofs.Ythphpbdmbmiaiaa
/- Plain: all sets of so many numbers, as they are listed. Conditions: none. -/
namespace Go.Rd
open Go Go.HL Go.Wx
def chosM (n : Nat) : Nat → Nat → List (List Int)
 | 0, _ => [[]]
 | m + 1, a => choP (fun i => (chosM n m (i + 1)).map ((i : Int) :: ·)) a (n - a)
theorem choP_congr {α : Type} {f g : Nat → List α} {a d : Nat} (h : ∀ i, f i = g i) : choP f a d = choP g a d := by rw [funext h]
theorem choM_map {n : Nat} : ∀ (m a : Nat) (l : List Int), choM n m a l = (chosM n m a).map (l ++ ·)
 | 0, a, l => by simp [choM, chosM]
 | m + 1, a, l => by
  rw [choM, chosM, choP_congr fun i => choM_map m (i + 1) (l ++ [(i : Int)])]
  unfold choP
  rw [List.map_flatMap]
  congr 1
  funext i
  rw [List.map_map]
  congr 1
  funext x
  simp
theorem choM_nil (n m a : Nat) : choM n m a [] = chosM n m a := by
 rw [choM_map]
 simp
theorem setsM_eq (n : Nat) : setsM n = choP (fun m => chosM n m 0) 0 (n + 1) := by
 unfold setsM
 rw [choP_congr fun m => choM_nil n m 0]
theorem chos_set {n m a : Nat} {x : List Int} (h : x ∈ chosM n m a) : SetOK x n ∧ x.length = m := by
 rw [← choM_nil] at h
 have := choM_set h (set_nil _) (fun _ h => absurd h List.not_mem_nil)
 simpa using this
theorem choP_len {n m a : Nat} (ih : ∀ a, (chosM n m a).length ≤ 2 ^ (n - a)) : ∀ d, d ≤ n - a → (choP (fun i => (chosM n m (i + 1)).map ((i : Int) :: ·)) a d).length + 2 ^ (n - a - d) ≤ 2 ^ (n - a)
 | 0, _ => by simp [choP_zero]
 | d + 1, hd => by
  have h1 := choP_len (a := a) ih d (by omega)
  have h2 := ih (a + d + 1)
  rw [choP_succ, List.length_append, List.length_map]
  have e : 2 ^ (n - a - d) = 2 ^ (n - a - (d + 1)) + 2 ^ (n - a - (d + 1)) := by
   rw [show n - a - d = (n - a - (d + 1)) + 1 by omega, Nat.pow_succ]; omega
  rw [show n - (a + d + 1) = n - a - (d + 1) by omega] at h2
  omega
theorem chos_len {n : Nat} : ∀ m a, (chosM n m a).length ≤ 2 ^ (n - a)
 | 0, a => by simp [chosM]; exact Nat.one_le_two_pow
 | m + 1, a => by
  have := choP_len (n := n) (m := m) (a := a) (fun a => chos_len m a) (n - a) (Nat.le_refl _)
  rw [chosM]
  exact Nat.le_trans (Nat.le_add_right _ _) this
theorem chos_lt {n m a d : Nat} (hd : d ≤ n - a) : (choP (fun i => (chosM n m (i + 1)).map ((i : Int) :: ·)) a d).length ≤ 2 ^ n := by
 have h1 := choP_len (n := n) (m := m) (a := a) (fun a => chos_len m a) d hd
 have h2 : 2 ^ (n - a) ≤ 2 ^ n := Nat.pow_le_pow_right (by omega) (by omega)
 exact Nat.le_trans (Nat.le_trans (Nat.le_add_right _ _) h1) h2
end Go.Rd
/- Walks: the kit's and the reference's lists of sets. Conditions: as each theorem states. -/
namespace Go.Proofs.Ythphpbdmbmiaiaa
open Go Go.HL Go.Proofs Go.Wx Go.Rd
section
variable [Lvl]
set_option maxRecDepth 100000
theorem accR_lit {e : TypeId} {m n b : Nat} {cs : List Value} (h : cs.length = n * m) : AccR e m cs ⟨some (b, .cells cs.toArray e (0, 0)), some ⟨b, 0, none⟩, n, n⟩ :=
 .inr ⟨b, n, n, [], h, rfl, by rw [List.append_nil], by rw [List.append_nil]; exact h⟩
theorem accR_one {e : TypeId} {b : Nat} {v : Value} : AccR e 1 [v] ⟨some (b, .cells [v].toArray e (0, 0)), some ⟨b, 0, none⟩, 1, 1⟩ := accR_lit rfl
theorem els_one {α : Type} {h : AH} {T : AH → α → List Value → Prop} {x : α} {c : List Value} (t : T h x c) : Els h T [x] [c] := by
 have := (Els.nil h T).snoc t
 simpa using this
theorem wp_pubO {P : Program} {n : Nat} {ops : Array Oper} {os : List Oper} {K : Sl → Pv → AH → Prop} {E : Value → Sl → Pv → AH → Prop} {S : Sl} {L : Pv} {h : AH} (i : Nat) {o : Oper} {p : Option (Nat × Obj)} (hg : o.guard = none) (hi : L[i]? = some p) (g : ∀ h', Ext h h' → (∀ b ob, p = some (b, ob) → h' b = some ob) → wpL P n ops (o :: os) K E S (L.set i none) h') : wpL P n ops (o :: os) K E S L h := by
 cases p with
 | none =>
  have e : L.set i none = L := by
   apply List.ext_getElem?
   intro j
   rw [List.getElem?_set]
   by_cases hj : i = j
   ·subst hj
    have hl := (List.getElem?_eq_some_iff.1 hi).1
    simp [hl]
    exact ((List.getElem?_eq_some_iff.1 hi).2).symm
   ·simp [hj]
  have := g h (Ext.refl h) (fun _ _ e => by cases e)
  rw [e] at this
  exact this
 | some q =>
  obtain ⟨b, o⟩ := q
  exact wp_pub i hg hi fun h' E hb => g h' E (fun b' o' e => by cases e; exact hb)
end
end Go.Proofs.Ythphpbdmbmiaiaa
/- Walks: the chord is the first of all sets. Conditions: as each theorem states. -/
namespace Go.Proofs.Ythphpbdmbmiaiaa
open Go Go.HL Go.Proofs Go.Wx Go.Rd
section
variable [Lvl]
set_option maxRecDepth 100000
end
end Go.Proofs.Ythphpbdmbmiaiaa
/- Walks of the reference: all sets, all hands. Conditions: as each theorem states. -/
namespace Go.Proofs.Ythphpbdmbmiaiaa
open Go Go.HL Go.Proofs Go.Wx Go.Rd
section
variable [Lvl]
set_option maxRecDepth 100000
set_option maxHeartbeats 4000000 in
theorem choicesR_ok (n : Nat) (hn : n ≤ 20) : ∀ (many a : Nat) (h : AH) (a' m' : Int), a' = a → m' = many → many ≤ 40 → a ≤ 40 →
  FnT Try.prog 125 #[.int .i64 a', .int .i64 n, .int .i64 m'] h (fun v h' => SlL h' (chosM n many a) v) := by
 intro many
 induction many with
 | zero =>
  intro a h a' m' ea em _ _
  subst ea em
  refine call_body Try.func125 rfl Try.ntmps125 rfl ?_
  refine xp_seq ?_
  refine xp_region rfl ?_
  refine op_pure (pv_assign (v := .slice _ _ _) rfl) ?_
  refine xp_seq ?_
  refine xp_seq ?_
  refine xp_region rfl ?_
  refine op_pure (pv_move (v := .int .i64 _) rfl) ?_
  refine op_pure (pv_of (v := .bool _) rfl) ?_
  refine xp_condT rfl (rfl) ?_
  refine xp_seq ?_
  refine xp_region rfl ?_
  refine op_buildSlice (zc := [_]) (vs := [(0, .slice _ _ _)]) (cs := [_]) rfl rfl rfl rfl rfl rfl rfl fun b13 hb13 => ?_
  refine wp_norm [_] rfl ?_
  refine op_pure (pv_assign (v := .slice _ _ _) rfl) ?_
  refine xp_ret ?_
  refine res_list (vs := [_]) Try.results125 ⟨resV_tmp rfl rfl, trivial⟩ fun V => ?_
  exact ⟨(ext_wl V), SlX.of (cs := [[.slice none 0 0]]) ⟨fun x hx => by simp at hx; subst hx; rfl, fun _ => ⟨b13, 0, rfl, cellsB (cs := [.slice none 0 0]) (wl_get V (i := 0) rfl)⟩⟩ (els_one ⟨_, rfl, none, 0, rfl, row_nil _ _⟩) rfl⟩
 | succ m ih =>
  intro a h a' m' ea em hm ha
  subst ea em
  obtain ⟨f, hf⟩ : ∃ f, f = fun i : Nat => (chosM n m (i + 1)).map ((i : Int) :: ·) := ⟨_, rfl⟩
  have hlt : ∀ d, d ≤ n - a → (choP f a d).length ≤ 2 ^ n := fun d hd => by rw [hf]; exact chos_lt hd
  have h2n : 2 ^ n ≤ 2 ^ 20 := Nat.pow_le_pow_right (by omega) hn
  rw [show chosM n (m + 1) a = choP f a (n - a) by rw [hf]; rfl]
  refine call_body Try.func125 rfl Try.ntmps125 rfl ?_
  refine xp_seq ?_
  refine xp_region rfl ?_
  refine op_pure (pv_assign (v := .slice _ _ _) rfl) ?_
  refine xp_seq ?_
  refine xp_seq ?_
  refine xp_region rfl ?_
  refine op_pure (pv_move (v := .int .i64 _) rfl) ?_
  refine op_pure (pv_of (v := .bool _) rfl) ?_
  refine xp_condF rfl (by simp; omega) ?_
  refine xp_skip ?_
  refine goes_more ?_
  refine goes_norm [_] rfl ?_
  refine xp_seq ?_
  refine xp_region rfl ?_
  refine op_pure (pv_assign (v := .slice _ _ _) rfl) ?_
  refine xp_seq ?_
  refine xp_seq ?_
  refine xp_region rfl ?_
  refine op_pure (pv_move (v := .int .i64 _) rfl) ?_
  refine op_pure (pv_assign (v := .int .i64 _) rfl) ?_
  refine xp_block ?_
  refine xp_loopL [7, 8, 9, 10, 15, 16, 17, 18, 19, 20, 21, 22, 23, 24, 25, 26, 27, 28, 29, 30, 31, 32, 33, 34, 35, 36, 37, 38, 39, 40, 41] 1 (α := Nat × Acc × List (List Value)) (fun ⟨d, ac, cs⟩ => [(8, .int .i64 ((a + d : Nat) : Int)), (7, .slice ac.A ac.n ac.c)]) (fun ⟨d, ac, cs⟩ L => L.set 0 (ac.p)) (fun ⟨d, ac, cs⟩ h_d => d ≤ n - a ∧ AccR 22 1 (cs.flatMap id) ac ∧ Els h_d TL (choP f a d) cs ∧ ∀ x ∈ cs, x.length = 1) (fun ⟨d, ac, cs⟩ => n - a - d) ((0, acc0, [])) ⟨rfl, rfl, trivial⟩ (rfl) (⟨Nat.zero_le _, accR0, Els.nil _ _, fun _ hx => absurd hx List.not_mem_nil⟩) ?_
  rintro ⟨d, ac, cs⟩ T1 h_d E_d J_d
  refine goes_norm [_] rfl ?_
  obtain ⟨J1, J2, J3, J4⟩ := J_d
  refine xp_seq ?_
  refine xp_seq ?_
  refine xp_region rfl ?_
  refine op_pure (pv_move (v := .int .i64 _) rfl) ?_
  refine op_pure (pv_move (v := .int .i64 _) rfl) ?_
  refine op_pure (pv_of (v := .bool _) rfl) ?_
  refine xp_cond rfl (fun hd => ?_) (fun hd => ?_)
  ·skip
   have hd' : a + d < n := by have := of_decide_eq_true hd; omega
   have hstep : choP f a (d + 1) = choP f a d ++ (chosM n m (a + d + 1)).map (((a + d : Nat) : Int) :: ·) := by rw [choP_succ, hf]
   have htot := hlt (d + 1) (by omega)
   rw [hstep, List.length_append, List.length_map] at htot
   refine xp_skip ?_
   refine xp_seq ?_
   refine xp_block ?_
   refine xp_seq ?_
   refine xp_region rfl ?_
   refine op_pure (pv_move (v := .int .i64 _) rfl) ?_
   refine op_pure (pv_arith rfl (by omega)) ?_
   refine op_pure (pv_move (v := .int .i64 _) rfl) ?_
   refine op_pure (pv_move (v := .int .i64 _) rfl) ?_
   refine op_pure (pv_arith rfl (by omega)) ?_
   refine op_fn (caps := []) (vs := [.int .i64 _, .int .i64 _, .int .i64 _]) rfl rfl rfl (ih (a + d + 1) h_d _ _ (by omega) (by omega) (by omega) (by omega)) ?_
   rintro _ h1 E1 S1
   obtain ⟨gs, RA, cR, rfl, RR, EE⟩ := SlX.els S1
   obtain ⟨rs, hrs⟩ : ∃ rs, rs = chosM n m (a + d + 1) := ⟨_, rfl⟩
   have hrm : ∀ x ∈ rs, x.length = m := fun x hx => (chos_set (by rw [← hrs]; exact hx)).2
   rw [← hrs] at EE htot hstep ⊢
   refine op_pure (pv_assign (v := .slice _ _ _) rfl) ?_
   refine xp_seq ?_
   refine xp_region rfl ?_
   refine op_pure (pv_assign (v := .int .i64 _) rfl) ?_
   refine xp_block ?_
   refine xp_loopL [7, 10, 26, 27, 28, 29, 30, 31, 32, 33, 34, 35, 36, 37, 38, 39, 40, 41] 1 (α := Nat × Acc × List (List Value)) (fun ⟨k, a2, ds⟩ => [(10, .int .i64 k), (7, .slice a2.A a2.n a2.c)]) (fun ⟨k, a2, ds⟩ L => L.set 0 (a2.p)) (fun ⟨k, a2, ds⟩ h_k => k ≤ rs.length ∧ AccR 22 1 (ds.flatMap id) a2 ∧ Els h_k TL (choP f a d ++ (rs.take k).map (((a + d : Nat) : Int) :: ·)) ds ∧ ∀ x ∈ ds, x.length = 1) (fun ⟨k, a2, ds⟩ => rs.length - k) ((0, ac, cs)) ⟨rfl, rfl, trivial⟩ (rfl) (⟨Nat.zero_le _, J2, by simpa using J3.ext TL.mono E1, J4⟩) ?_
   rintro ⟨k, a2, ds⟩ T2 h_k E_k J_k
   refine goes_norm [_] rfl ?_
   obtain ⟨K1, K2, K3, K4⟩ := J_k
   refine xp_seq ?_
   refine xp_seq ?_
   refine xp_region rfl ?_
   refine op_pure (pv_move (v := .int .i64 _) rfl) ?_
   refine op_pure (pv_move (v := .slice _ _ _) rfl) ?_
   refine op_pure (pv_len rfl rfl) ?_
   refine op_pure (pv_of (v := .bool _) rfl) ?_
   refine xp_cond rfl (fun hk => ?_) (fun hk => ?_)
   ·skip
    have hkl : k < rs.length := ltI hk
    have hkm := hrm _ (List.getElem_mem hkl)
    obtain ⟨hkc, y0, e0, XA, cX, rfl, RX⟩ := (EE.ext TL.mono E_k).at hkl
    obtain ⟨g, off, hA, hc⟩ := (RR.ext E_k).at (by omega) hkc
    have hc : Cells h_k g (off + k * 1) [.slice XA rs[k].length cX] := by rw [← e0]; exact hc
    have hdl : (ds.flatMap id).length = (choP f a d).length + k := by rw [flat_len (enc := id) (m := 1) K4, K3.1]; simp; omega
    refine xp_skip ?_
    refine xp_seq ?_
    refine xp_block ?_
    refine xp_region rfl ?_
    refine op_pure (pv_move (v := .slice _ _ _) rfl) ?_
    refine op_pure (pv_move (v := .int .i64 _) rfl) ?_
    refine op_buildSlice (zc := [_]) (vs := [(0, .int .i64 _)]) (cs := [_]) rfl rfl rfl rfl rfl rfl rfl fun b34 hb34 => ?_
    refine wp_norm [_, _] rfl ?_
    refine op_pure (pv_move (v := .slice _ _ _) rfl) ?_
    refine op_pure (pv_move (v := .int .i64 _) rfl) ?_
    refine op_pure (pv_indexE (m := 1) rfl hA rfl rfl rfl (by omega) (by omega)) ?_
    refine op_load (v := .slice _ _ _) rfl rfl ((hc) 0 _ rfl) ?_
    refine op_appendR 1 accR_one rfl rfl rfl (fun V => RX.2.ext (ext_wl V)) (flat_len RX.1) (flat_plain intP2 rs[k]) rfl rfl rfl rfl rfl rfl rfl (by omega) rfl (by rw [flat_len RX.1]; simp; omega) fun a3 h3a E3a ha3 => ?_
    refine wp_norm [_, _] rfl ?_
    refine wp_pubO 1 rfl rfl ?_
    intro g8 G8 P8
    refine wp_norm [_, _] rfl ?_
    have R8 : Row g8 1 intC a3.A (((a + d : Nat) : Int) :: rs[k]) := ⟨fun _ _ => rfl, AccR.rd ha3 P8⟩
    have n8 : a3.n = (((a + d : Nat) : Int) :: rs[k]).length := by have := AccR.len ha3; rw [List.length_append, flat_len RX.1] at this; simp at this; simp; omega
    refine op_buildSlice (zc := [_]) (vs := [(0, .slice _ _ _)]) (cs := [_]) rfl rfl rfl rfl rfl rfl rfl fun b40 hb40 => ?_
    refine wp_norm [_, _, _] rfl ?_
    refine op_appendR 0 K2 rfl rfl rfl (fun V => rdP V (i := 2) rfl) rfl rfl rfl rfl rfl rfl rfl rfl rfl (by omega) rfl (by rw [hdl]; simp; omega) fun a4 h4a E4a ha4 => ?_
    refine wp_norm [_, _, _] rfl ?_
    refine op_pure (pv_assign (v := .slice _ _ _) rfl) ?_
    refine xp_region rfl ?_
    refine op_pure (pv_move (v := .int .i64 _) rfl) ?_
    refine op_pure (pv_arith rfl (by omega)) ?_
    refine op_pure (pv_assign (v := .int .i64 _) rfl) ?_
    refine ⟨(k + 1, a4, ds ++ [[.slice a3.A a3.n a3.c]]), ⟨rfl, rfl, trivial⟩, rfl, rfl, (Ext.trans (Ext.trans (Ext.trans E_k E3a) G8) E4a), fun h3 E3 => ⟨hkl, by rw [List.flatMap_append]; exact ha4, by rw [take_snoc hkl, List.map_append, ← List.append_assoc]; exact ((K3.ext TL.mono (Ext.trans (Ext.trans E3a G8) E4a)).snoc ⟨_, rfl, a3.A, a3.c, by rw [n8], R8.ext E4a⟩).ext TL.mono E3, one_len K4 rfl⟩, by first | omega | (dsimp only; omega), ?_⟩
    repeat (first | exact off_base _ _ _ | refine off_upd (by decide) ?_ | refine off_updL rfl ?_ | refine off_mix rfl ?_)
   ·skip
    have hke : k = rs.length := by have := geI hk; omega
    subst hke
    rw [List.take_length, ← hstep] at K3
    refine xp_exit ?_
    refine xp_region rfl ?_
    refine op_pure (pv_move (v := .int .i64 _) rfl) ?_
    refine op_pure (pv_arith rfl (by omega)) ?_
    refine op_pure (pv_assign (v := .int .i64 _) rfl) ?_
    refine ⟨(d + 1, a2, ds), ⟨intE (by omega), rfl, trivial⟩, rfl, rfl, (Ext.trans (Ext.trans E_d E1) E_k), fun h3 E3 => ⟨by omega, K2, (K3.ext TL.mono (Ext.refl _)).ext TL.mono E3, K4⟩, by first | omega | (dsimp only; omega), ?_⟩
    repeat (first | exact off_base _ _ _ | refine off_upd (by decide) ?_ | refine off_updL rfl ?_ | refine off_mix rfl ?_)
  ·skip
   have hde : d = n - a := by have := of_decide_eq_false hd; omega
   subst hde
   refine xp_exit ?_
   refine xp_seq ?_
   refine xp_region rfl ?_
   refine op_pure (pv_move (v := .slice _ _ _) rfl) ?_
   refine op_pure (pv_assign (v := .slice _ _ _) rfl) ?_
   refine xp_ret ?_
   refine res_list (vs := [_]) Try.results125 ⟨resV_tmp rfl rfl, trivial⟩ fun V => ?_
   exact ⟨(Ext.trans E_d (ext_wl V)), SlX.acc (i := 0) J2 (by omega) J4 V rfl (J3.ext TL.mono (ext_wl V))⟩
theorem els_app {α : Type} {h : AH} {T : AH → α → List Value → Prop} {l l' : List α} {cs cs' : List (List Value)} (r : Els h T l cs) (r' : Els h T l' cs') : Els h T (l ++ l') (cs ++ cs') := by
 refine ⟨by simp [r.1, r'.1], fun i y d h1 h2 => ?_⟩
 rw [List.getElem?_append] at h1 h2
 rw [r.1] at h2
 split at h1
 ·rename_i hi; rw [if_pos hi] at h2; exact r.2 i y d h1 h2
 ·rename_i hi; rw [if_neg hi] at h2; exact r'.2 _ y d h1 h2
theorem app_len1 {cs ds : List (List Value)} {m : Nat} (h : ∀ x ∈ cs, x.length = m) (h' : ∀ x ∈ ds, x.length = m) : ∀ x ∈ cs ++ ds, x.length = m := fun x hx => (List.mem_append.1 hx).elim (h x) (h' x)
theorem els_plain {h : AH} {l : List (List Int)} {cs : List (List Value)} (r : Els h TL l cs) : (cs.flatMap id).all plainB = true := by
 rw [List.all_eq_true]
 intro v hv
 obtain ⟨c, hc, hvc⟩ := List.mem_flatMap.1 hv
 obtain ⟨i, hi, rfl⟩ := List.getElem_of_mem hc
 obtain ⟨hci, y, e, A, cp, rfl, _⟩ := r.at (i := i) (by rw [← r.1]; exact hi)
 rw [e] at hvc
 simp at hvc
 subst hvc
 rfl
theorem sets_len {n : Nat} (hn : n ≤ 6) : ∀ k, k ≤ n + 1 → (choP (fun m => chosM n m 0) 0 k).length ≤ k * 2 ^ 6
 | 0, _ => by simp [choP_zero]
 | k + 1, hk => by
  have ih := sets_len hn k (by omega)
  have h1 := chos_len (n := n) (0 + k) 0
  have h2 : 2 ^ (n - 0) ≤ 2 ^ 6 := Nat.pow_le_pow_right (by omega) (by omega)
  rw [choP_succ, List.length_append, Nat.add_mul]
  omega
set_option maxHeartbeats 4000000 in
theorem setsR_ok (n : Nat) (hn : n ≤ 6) (n' : Int) (en : n' = n) (h : AH) :
  FnT Try.prog 101 #[.int .i64 n'] h (fun v h' => SlL h' (setsM n) v) := by
 subst en
 rw [setsM_eq]
 refine call_body Try.func101 rfl Try.ntmps101 rfl ?_
 refine xp_seq ?_
 refine xp_region rfl ?_
 refine op_pure (pv_assign (v := .slice _ _ _) rfl) ?_
 refine goes_more ?_
 refine goes_norm [_] rfl ?_
 refine xp_seq ?_
 refine xp_region rfl ?_
 refine op_pure (pv_assign (v := .slice _ _ _) rfl) ?_
 refine xp_seq ?_
 refine xp_seq ?_
 refine xp_region rfl ?_
 refine op_pure (pv_assign (v := .int .i64 _) rfl) ?_
 refine xp_block ?_
 refine xp_loopL [3, 4, 5, 6, 7, 8, 9, 10, 11, 12, 13, 14] 1 (α := Nat × Acc × List (List Value)) (fun ⟨k, ac, cs⟩ => [(4, .int .i64 k), (3, .slice ac.A ac.n ac.c)]) (fun ⟨k, ac, cs⟩ L => L.set 0 (ac.p)) (fun ⟨k, ac, cs⟩ h_k => k ≤ n + 1 ∧ AccR 22 1 (cs.flatMap id) ac ∧ Els h_k TL (choP (fun m => chosM n m 0) 0 k) cs ∧ ∀ x ∈ cs, x.length = 1) (fun ⟨k, ac, cs⟩ => n + 1 - k) ((0, acc0, [])) ⟨rfl, rfl, trivial⟩ (rfl) (⟨Nat.zero_le _, accR0, Els.nil _ _, fun _ hx => absurd hx List.not_mem_nil⟩) ?_
 rintro ⟨k, ac, cs⟩ T1 h_k E_k J_k
 refine goes_norm [_] rfl ?_
 obtain ⟨J1, J2, J3, J4⟩ := J_k
 refine xp_seq ?_
 refine xp_seq ?_
 refine xp_region rfl ?_
 refine op_pure (pv_move (v := .int .i64 _) rfl) ?_
 refine op_pure (pv_move (v := .int .i64 _) rfl) ?_
 refine op_pure (pv_of (v := .bool _) rfl) ?_
 refine xp_cond rfl (fun hk => ?_) (fun hk => ?_)
 ·skip
  have hkl : k ≤ n := by have := of_decide_eq_true hk; omega
  have hs := sets_len hn k (by omega)
  have h1 := chos_len (n := n) k 0
  have h2 : 2 ^ (n - 0) ≤ 2 ^ 6 := Nat.pow_le_pow_right (by omega) (by omega)
  have hstep : choP (fun m => chosM n m 0) 0 (k + 1) = choP (fun m => chosM n m 0) 0 k ++ chosM n k 0 := by rw [choP_succ, Nat.zero_add]
  refine xp_skip ?_
  refine xp_seq ?_
  refine xp_block ?_
  refine xp_region rfl ?_
  refine op_pure (pv_move (v := .slice _ _ _) rfl) ?_
  refine op_pure (pv_move (v := .int .i64 _) rfl) ?_
  refine op_pure (pv_move (v := .int .i64 _) rfl) ?_
  refine op_fn (caps := []) (vs := [.int .i64 _, .int .i64 _, .int .i64 _]) rfl rfl rfl (choicesR_ok n (by omega) k 0 h_k _ _ rfl rfl (by omega) (by omega)) ?_
  rintro _ h5 E5 S5
  obtain ⟨gs, RA, cR, rfl, RR, EE⟩ := SlX.els S5
  have hdl : (cs.flatMap id).length = (choP (fun m => chosM n m 0) 0 k).length := by rw [flat_len (enc := id) (m := 1) J4, J3.1]; omega
  have hgl : (gs.flatMap id).length = (chosM n k 0).length * 1 := by rw [flat_len (enc := id) (m := 1) RR.1, EE.1]
  refine op_appendR 0 J2 rfl rfl rfl (fun V => RR.2.ext (ext_wl V)) hgl (els_plain EE) rfl rfl rfl rfl rfl rfl rfl (by omega) rfl (by rw [hdl, hgl]; omega) fun a4 h2a E2a ha4 => ?_
  refine wp_norm [_] rfl ?_
  refine op_pure (pv_assign (v := .slice _ _ _) rfl) ?_
  refine xp_region rfl ?_
  refine op_pure (pv_move (v := .int .i64 _) rfl) ?_
  refine op_pure (pv_arith rfl (by omega)) ?_
  refine op_pure (pv_assign (v := .int .i64 _) rfl) ?_
  refine ⟨(k + 1, a4, cs ++ gs), ⟨rfl, rfl, trivial⟩, rfl, rfl, (Ext.trans (Ext.trans E_k E5) E2a), fun h3 E3 => ⟨by omega, by rw [List.flatMap_append]; exact ha4, by rw [hstep]; exact (els_app (J3.ext TL.mono (Ext.trans E5 E2a)) (EE.ext TL.mono E2a)).ext TL.mono E3, app_len1 J4 RR.1⟩, by first | omega | (dsimp only; omega), ?_⟩
  repeat (first | exact off_base _ _ _ | refine off_upd (by decide) ?_ | refine off_updL rfl ?_ | refine off_mix rfl ?_)
 ·skip
  have hke : k = n + 1 := by have := of_decide_eq_false hk; omega
  subst hke
  refine xp_exit ?_
  refine xp_seq ?_
  refine xp_region rfl ?_
  refine op_pure (pv_move (v := .slice _ _ _) rfl) ?_
  refine op_pure (pv_assign (v := .slice _ _ _) rfl) ?_
  refine xp_ret ?_
  refine res_list (vs := [_]) Try.results101 ⟨resV_tmp rfl rfl, trivial⟩ fun V => ?_
  exact ⟨(Ext.trans E_k (ext_wl V)), SlX.acc (i := 0) J2 (by omega) J4 V rfl (J3.ext TL.mono (ext_wl V))⟩
end
end Go.Proofs.Ythphpbdmbmiaiaa
/- Walks of the reference: all hands; equal lists; sets with a number more, or without one. Conditions: as each theorem states. -/
namespace Go.Proofs.Ythphpbdmbmiaiaa
open Go Go.HL Go.Proofs Go.Wx Go.Rd
section
variable [Lvl]
set_option maxRecDepth 100000
theorem two_len {cs : List (List Value)} {c : List Value} (h : ∀ x ∈ cs, x.length = 2) (hc : c.length = 2) : ∀ x ∈ cs ++ [c], x.length = 2 := fun x hx => by
 rcases List.mem_append.1 hx with hx | hx
 ·exact h x hx
 ·simp at hx; subst hx; exact hc
theorem pairs_take {ls bs : List (List Int)} {k : Nat} (hk : k < ls.length) : pairsM (ls.take (k + 1)) bs = pairsM (ls.take k) bs ++ bs.map fun o => ⟨ls[k], o⟩ := by
 rw [take_snoc hk]
 unfold pairsM
 rw [List.flatMap_append]
 simp
theorem setsM_len {n : Nat} (hn : n ≤ 6) : (setsM n).length ≤ 448 := by
 have h := sets_len hn (n + 1) (Nat.le_refl _)
 rw [setsM_eq]
 omega
set_option maxHeartbeats 4000000 in
theorem HandsR_ok (m : MachP) (hb : m.buttons.length ≤ 6) (hr : 0 ≤ m.regs ∧ m.regs ≤ 6) (AB AQ AL AW : Option Addr) (cB cQ cL cW : Nat) (h : AH) (RM : MachR h AB AQ AL AW m) :
  FnT Try.prog 52 #[machV AB AQ AL AW cB cQ cL cW m] h (fun v h' => SlX h' 2 TH (handsM m) v) := by
 obtain ⟨bs, hbs⟩ : ∃ bs, bs = setsM m.buttons.length := ⟨_, rfl⟩
 obtain ⟨rs, hrs⟩ : ∃ rs, rs = setsM m.regs.toNat := ⟨_, rfl⟩
 have hbl : bs.length ≤ 448 := by rw [hbs]; exact setsM_len hb
 have hrl : rs.length ≤ 448 := by rw [hrs]; exact setsM_len (by omega)
 have L1 := setsR_ok m.buttons.length hb m.buttons.length rfl
 have L2 := setsR_ok m.regs.toNat (by omega) m.regs (by omega)
 rw [← hbs] at L1
 rw [← hrs] at L2
 rw [show handsM m = pairsM bs rs by rw [hbs, hrs]; rfl]
 refine call_body Try.func52 rfl Try.ntmps52 rfl ?_
 refine xp_seq ?_
 refine xp_region rfl ?_
 refine op_box (v := .agg #[.int .i64 _, .int .i64 _, .int .i64 _, .int .i64 _, .int .i64 _, .slice _ _ _, .slice _ _ _, .slice _ _ _, .slice _ _ _]) (cs := [_, _, _, _, _, _, _, _, _]) rfl rfl fun b1 hb1 => ?_
 refine wp_norm [_] rfl ?_
 refine op_pure (pv_assign (v := .slice _ _ _) rfl) ?_
 refine goes_more ?_
 refine goes_norm [_, _] rfl ?_
 refine xp_seq ?_
 refine xp_region rfl ?_
 refine op_pure (pv_assign (v := .slice _ _ _) rfl) ?_
 refine xp_seq ?_
 refine xp_dw [] rfl rfl rfl ?_
 refine dw_pure (i := 0) rfl (by decide +kernel) (pv_fieldAddr rfl rfl rfl rfl 5 rfl) ?_
 refine dw_load (i := 1) rfl (by decide +kernel) ?_
 refine op_loadP 0 (v := .slice _ _ _) rfl rfl rfl rfl ?_
 refine dw_pure (i := 2) rfl (by decide +kernel) (pv_len rfl rfl) ?_
 refine dw_pure (i := 4) rfl (by decide +kernel) (pv_fieldAddr rfl rfl rfl rfl 2 rfl) ?_
 refine dw_load (i := 5) rfl (by decide +kernel) ?_
 refine op_loadP 0 (v := .int .i64 _) rfl rfl rfl rfl ?_
 refine dw_eff (i := 3) rfl (by decide +kernel) ?_
 refine op_fn (caps := []) (vs := [.int .i64 _]) rfl rfl rfl (L1 h) ?_
 rintro _ h1 E1 S1
 refine ⟨ext_wlm E1 _, ?_⟩
 obtain ⟨gb, BA, cBA, rfl, RB, EB⟩ := SlX.els S1
 refine dw_last (i := 6) rfl (by decide +kernel) (by decide +kernel) ?_
 refine op_fn (caps := []) (vs := [.int .i64 _]) rfl rfl rfl (L2 h1) ?_
 rintro _ h2 E2 S2
 obtain ⟨gr, RA, cRA, rfl, RR, ER⟩ := SlX.els S2
 refine dw_pure (i := 7) rfl (by decide +kernel) (pv_assign (v := .slice _ _ _) rfl) ?_
 refine dw_pure (i := 8) rfl (by decide +kernel) (pv_assign (v := .slice _ _ _) rfl) ?_
 refine dw_end rfl ?_
 refine xp_seq ?_
 refine xp_seq ?_
 refine xp_region rfl ?_
 refine op_pure (pv_assign (v := .int .i64 _) rfl) ?_
 refine xp_block ?_
 refine xp_loopL [3, 6, 7, 15, 16, 17, 18, 19, 20, 21, 22, 23, 24, 25, 26, 27, 28, 29, 30, 31, 32, 33, 34, 35, 36, 37, 38] 2 (α := Nat × Acc × List (List Value)) (fun ⟨k, ac, cs⟩ => [(6, .int .i64 k), (3, .slice ac.A ac.n ac.c)]) (fun ⟨k, ac, cs⟩ L => L.set 1 (ac.p)) (fun ⟨k, ac, cs⟩ h_k => k ≤ bs.length ∧ AccR 31 2 (cs.flatMap id) ac ∧ Els h_k TH (pairsM (bs.take k) rs) cs ∧ ∀ x ∈ cs, x.length = 2) (fun ⟨k, ac, cs⟩ => bs.length - k) ((0, acc0, [])) ⟨rfl, rfl, trivial⟩ (rfl) (⟨Nat.zero_le _, accR0, Els.nil _ _, fun _ hx => absurd hx List.not_mem_nil⟩) ?_
 rintro ⟨k, ac, cs⟩ T1 h_k E_k J_k
 refine goes_norm [_, _] rfl ?_
 obtain ⟨J1, J2, J3, J4⟩ := J_k
 refine xp_seq ?_
 refine xp_seq ?_
 refine xp_region rfl ?_
 refine op_pure (pv_move (v := .int .i64 _) rfl) ?_
 refine op_pure (pv_move (v := .slice _ _ _) rfl) ?_
 refine op_pure (pv_len rfl rfl) ?_
 refine op_pure (pv_of (v := .bool _) rfl) ?_
 refine xp_cond rfl (fun hk => ?_) (fun hk => ?_)
 ·skip
  have hkl : k < bs.length := ltI hk
  have hpl := pairs_len rs (bs.take k)
  rw [List.length_take, Nat.min_eq_left J1] at hpl
  have hpm : k * rs.length ≤ 448 * 448 := Nat.mul_le_mul (by omega) hrl
  refine xp_skip ?_
  refine xp_seq ?_
  refine xp_block ?_
  refine xp_seq ?_
  refine xp_region rfl ?_
  refine op_pure (pv_assign (v := .int .i64 _) rfl) ?_
  refine xp_block ?_
  refine xp_loopL [3, 7, 21, 22, 23, 24, 25, 26, 27, 28, 29, 30, 31, 32, 33, 34, 35, 36, 37, 38] 2 (α := Nat × Acc × List (List Value)) (fun ⟨j, a2, ds⟩ => [(7, .int .i64 j), (3, .slice a2.A a2.n a2.c)]) (fun ⟨j, a2, ds⟩ L => L.set 1 (a2.p)) (fun ⟨j, a2, ds⟩ h_j => j ≤ rs.length ∧ AccR 31 2 (ds.flatMap id) a2 ∧ Els h_j TH (pairsM (bs.take k) rs ++ (rs.take j).map fun o => ⟨bs[k], o⟩) ds ∧ ∀ x ∈ ds, x.length = 2) (fun ⟨j, a2, ds⟩ => rs.length - j) ((0, ac, cs)) ⟨rfl, rfl, trivial⟩ (rfl) (⟨Nat.zero_le _, J2, by simpa using J3.ext TH.mono (Ext.refl _), J4⟩) ?_
  rintro ⟨j, a2, ds⟩ T2 h_j E_j J_j
  refine goes_norm [_, _] rfl ?_
  obtain ⟨K1, K2, K3, K4⟩ := J_j
  refine xp_seq ?_
  refine xp_seq ?_
  refine xp_region rfl ?_
  refine op_pure (pv_move (v := .int .i64 _) rfl) ?_
  refine op_pure (pv_move (v := .slice _ _ _) rfl) ?_
  refine op_pure (pv_len rfl rfl) ?_
  refine op_pure (pv_of (v := .bool _) rfl) ?_
  refine xp_cond rfl (fun hj => ?_) (fun hj => ?_)
  ·skip
   have hjl : j < rs.length := ltI hj
   have hdl : (ds.flatMap id).length = (k * rs.length + j) * 2 := by rw [flat_len (enc := id) (m := 2) K4, K3.1, List.length_append, hpl]; simp; omega
   obtain ⟨hkc, y0, e0, XA, cX, rfl, RX⟩ := (EB.ext TL.mono (Ext.trans (Ext.trans E2 E_k) E_j)).at hkl
   obtain ⟨g, off, hA, hc⟩ := (RB.ext (Ext.trans (Ext.trans E2 E_k) E_j)).at (by omega) hkc
   have hc : Cells h_j g (off + k * 1) [.slice XA bs[k].length cX] := by rw [← e0]; exact hc
   obtain ⟨hjc, y1, e1, ZA, cZ, rfl, RZ⟩ := (ER.ext TL.mono (Ext.trans E_k E_j)).at hjl
   obtain ⟨g2, off2, hA2, hc2⟩ := (RR.ext (Ext.trans E_k E_j)).at (by omega) hjc
   have hc2 : Cells h_j g2 (off2 + j * 1) [.slice ZA rs[j].length cZ] := by rw [← e1]; exact hc2
   refine xp_skip ?_
   refine xp_seq ?_
   refine xp_block ?_
   refine xp_dw [] rfl rfl rfl ?_
   refine dw_pure (i := 0) rfl (by decide +kernel) (pv_move (v := .slice _ _ _) rfl) ?_
   refine dw_pure (i := 1) rfl (by decide +kernel) (pv_move (v := .slice _ _ _) rfl) ?_
   refine dw_pure (i := 2) rfl (by decide +kernel) (pv_move (v := .int .i64 _) rfl) ?_
   refine dw_pure (i := 3) rfl (by decide +kernel) (pv_indexE (m := 1) rfl hA rfl rfl rfl (by omega) (by omega)) ?_
   refine dw_load (i := 4) rfl (by decide +kernel) ?_
   refine op_load (v := .slice _ _ _) rfl rfl ((hc) 0 _ rfl) ?_
   refine dw_pure (i := 5) rfl (by decide +kernel) (pv_move (v := .slice _ _ _) rfl) ?_
   refine dw_pure (i := 6) rfl (by decide +kernel) (pv_move (v := .int .i64 _) rfl) ?_
   refine dw_pure (i := 7) rfl (by decide +kernel) (pv_indexE (m := 1) rfl hA2 rfl rfl rfl (by omega) (by omega)) ?_
   refine dw_load (i := 8) rfl (by decide +kernel) ?_
   refine op_load (v := .slice _ _ _) rfl rfl ((hc2) 0 _ rfl) ?_
   refine dw_pure (i := 9) rfl (by decide +kernel) (pv_build (zc := [_, _]) (vs := [(0, .slice _ _ _), (1, .slice _ _ _)]) (cs := [_, _]) rfl rfl rfl rfl rfl rfl) ?_
   refine dw_last (i := 10) rfl (by decide +kernel) (by decide +kernel) ?_
   refine op_buildSlice (zc := [_, _]) (vs := [(0, .agg #[.slice _ _ _, .slice _ _ _])]) (cs := [_, _]) rfl rfl rfl rfl rfl rfl rfl fun b37 hb37 => ?_
   refine dw_norm [_, _, _] rfl ?_
   refine dw_last (i := 11) rfl (by decide +kernel) (by decide +kernel) ?_
   refine op_appendR 1 K2 rfl rfl rfl (fun V => rdP V (i := 2) rfl) rfl rfl rfl rfl rfl rfl rfl rfl rfl (by omega) rfl (by rw [hdl]; simp; omega) fun a4 h3a E3a ha4 => ?_
   refine dw_norm [_, _, _] rfl ?_
   refine dw_pure (i := 12) rfl (by decide +kernel) (pv_assign (v := .slice _ _ _) rfl) ?_
   refine dw_end rfl ?_
   refine xp_region rfl ?_
   refine op_pure (pv_move (v := .int .i64 _) rfl) ?_
   refine op_pure (pv_arith rfl (by omega)) ?_
   refine op_pure (pv_assign (v := .int .i64 _) rfl) ?_
   refine ⟨(j + 1, a4, ds ++ [[.slice XA bs[k].length cX, .slice ZA rs[j].length cZ]]), ⟨rfl, rfl, trivial⟩, rfl, rfl, (Ext.trans E_j E3a), fun h3 E3 => ⟨hjl, by rw [List.flatMap_append]; exact ha4, by rw [take_snoc hjl, List.map_append, ← List.append_assoc]; exact ((K3.ext TH.mono E3a).snoc ⟨_, _, rfl, ⟨XA, cX, rfl, RX.ext E3a⟩, ⟨ZA, cZ, rfl, RZ.ext E3a⟩⟩).ext TH.mono E3, two_len K4 rfl⟩, by first | omega | (dsimp only; omega), ?_⟩
   repeat (first | exact off_base _ _ _ | refine off_upd (by decide) ?_ | refine off_updL rfl ?_ | refine off_mix rfl ?_)
  ·skip
   have hje : j = rs.length := by have := geI hj; omega
   subst hje
   rw [List.take_length, ← pairs_take hkl] at K3
   refine xp_exit ?_
   refine xp_region rfl ?_
   refine op_pure (pv_move (v := .int .i64 _) rfl) ?_
   refine op_pure (pv_arith rfl (by omega)) ?_
   refine op_pure (pv_assign (v := .int .i64 _) rfl) ?_
   refine ⟨(k + 1, a2, ds), ⟨rfl, rfl, trivial⟩, rfl, rfl, (Ext.trans E_k E_j), fun h3 E3 => ⟨hkl, K2, (K3.ext TH.mono (Ext.refl _)).ext TH.mono E3, K4⟩, by first | omega | (dsimp only; omega), ?_⟩
   repeat (first | exact off_base _ _ _ | refine off_upd (by decide) ?_ | refine off_updL rfl ?_ | refine off_mix rfl ?_)
 ·skip
  have hke : k = bs.length := by have := geI hk; omega
  subst hke
  rw [List.take_length] at J3
  refine xp_exit ?_
  refine xp_seq ?_
  refine xp_region rfl ?_
  refine op_pure (pv_move (v := .slice _ _ _) rfl) ?_
  refine op_pure (pv_assign (v := .slice _ _ _) rfl) ?_
  refine xp_ret ?_
  refine res_list (vs := [_]) Try.results52 ⟨resV_tmp rfl rfl, trivial⟩ fun V => ?_
  exact ⟨(Ext.trans (Ext.trans (Ext.trans E1 E2) E_k) (ext_wl V)), SlX.acc (i := 1) J2 (by omega) J4 V rfl (J3.ext TH.mono (ext_wl V))⟩
theorem sameR_ok (a b : List Int) (A B : Option Addr) (ca cb : Nat) (h : AH) (Ra : Row h 1 intC A a) (Rb : Row h 1 intC B b) (ha : a.length < 2 ^ 40) (hb : b.length < 2 ^ 40) :
  FnT Try.prog 103 #[.slice A a.length ca, .slice B b.length cb] h (fun v _ => v = .bool (decide (a = b))) := by
 refine call_body Try.func103 rfl Try.ntmps103 rfl ?_
 refine xp_seq ?_
 refine xp_region rfl ?_
 refine op_pure (pv_assign (v := .bool _) rfl) ?_
 refine xp_seq ?_
 refine xp_seq ?_
 refine xp_region rfl ?_
 refine op_pure (pv_move (v := .slice _ _ _) rfl) ?_
 refine op_pure (pv_len rfl rfl) ?_
 refine op_pure (pv_move (v := .slice _ _ _) rfl) ?_
 refine op_pure (pv_len rfl rfl) ?_
 refine op_pure (pv_of (v := .bool _) rfl) ?_
 refine xp_cond rfl (fun hn => ?_) (fun hn => ?_)
 ·skip
  have hn' : a.length ≠ b.length := by have : ((a.length : Int) != b.length) = true := hn; simp at this; omega
  refine xp_seq ?_
  refine xp_region rfl ?_
  refine op_pure (pv_assign (v := .bool _) rfl) ?_
  refine xp_ret ?_
  refine res_list (vs := [_]) Try.results103 ⟨resV_tmp rfl rfl, trivial⟩ fun V => ?_
  exact ⟨(ext_wl V), boolE (decide_eq_false fun e => hn' (by rw [e])).symm⟩
 ·skip
  have hn' : a.length = b.length := by have : ((a.length : Int) != b.length) = false := hn; simp at this; omega
  refine xp_skip ?_
  refine xp_seq ?_
  refine xp_seq ?_
  refine xp_region rfl ?_
  refine op_pure (pv_assign (v := .int .i64 _) rfl) ?_
  refine xp_block ?_
  refine xp_loopB [4, 5, 11, 12, 13, 14, 15, 16, 17, 18, 19, 20, 21, 22, 23, 24, 25] 0 (α := Nat) (fun k => [(5, .int .i64 k)]) (fun k => _) (fun k h_k => k ≤ a.length ∧ a.take k = b.take k) (fun k => a.length - k) (0) ⟨rfl, trivial⟩ (rfl) (⟨Nat.zero_le _, by simp⟩) ?_
  rintro k T1 h_k E_k J_k
  refine goes_norm [] rfl ?_
  obtain ⟨K1, K2⟩ := J_k
  refine xp_seq ?_
  refine xp_seq ?_
  refine xp_region rfl ?_
  refine op_pure (pv_move (v := .int .i64 _) rfl) ?_
  refine op_pure (pv_move (v := .slice _ _ _) rfl) ?_
  refine op_pure (pv_len rfl rfl) ?_
  refine op_pure (pv_of (v := .bool _) rfl) ?_
  refine xp_cond rfl (fun hk => ?_) (fun hk => ?_)
  ·skip
   have hka : k < a.length := ltI hk
   have hkb : k < b.length := by omega
   obtain ⟨g, off, hA, hc⟩ := (Ra.ext E_k).at (by omega) hka
   obtain ⟨g2, off2, hA2, hc2⟩ := (Rb.ext E_k).at (by omega) hkb
   refine xp_skip ?_
   refine xp_seq ?_
   refine xp_block ?_
   refine xp_seq ?_
   refine xp_dw [] rfl rfl rfl ?_
   refine dw_pure (i := 0) rfl (by decide +kernel) (pv_move (v := .slice _ _ _) rfl) ?_
   refine dw_pure (i := 1) rfl (by decide +kernel) (pv_move (v := .int .i64 _) rfl) ?_
   refine dw_pure (i := 2) rfl (by decide +kernel) (pv_indexE rfl hA rfl rfl rfl (by omega) (by omega)) ?_
   refine dw_load (i := 3) rfl (by decide +kernel) ?_
   refine op_load (v := .int .i64 _) rfl rfl ((hc) 0 _ rfl) ?_
   refine dw_pure (i := 4) rfl (by decide +kernel) (pv_move (v := .slice _ _ _) rfl) ?_
   refine dw_pure (i := 5) rfl (by decide +kernel) (pv_move (v := .int .i64 _) rfl) ?_
   refine dw_pure (i := 6) rfl (by decide +kernel) (pv_indexE rfl hA2 rfl rfl rfl (by omega) (by omega)) ?_
   refine dw_load (i := 7) rfl (by decide +kernel) ?_
   refine op_load (v := .int .i64 _) rfl rfl ((hc2) 0 _ rfl) ?_
   refine dw_pure (i := 8) rfl (by decide +kernel) (pv_of (v := .bool _) rfl) ?_
   refine dw_end rfl ?_
   refine xp_cond rfl (fun hd => ?_) (fun hd => ?_)
   ·skip
    have hd' : a[k] ≠ b[k] := by simpa using hd
    refine xp_seq ?_
    refine xp_region rfl ?_
    refine op_pure (pv_assign (v := .bool _) rfl) ?_
    refine xp_ret ?_
    refine res_list (vs := [_]) Try.results103 ⟨resV_tmp rfl rfl, trivial⟩ fun V => ?_
    exact ⟨(Ext.trans E_k (ext_wl V)), boolE (decide_eq_false fun e => hd' (by subst e; rfl)).symm⟩
   ·skip
    have hd' : a[k] = b[k] := by simpa using hd
    refine xp_skip ?_
    refine xp_region rfl ?_
    refine op_pure (pv_move (v := .int .i64 _) rfl) ?_
    refine op_pure (pv_arith rfl (by omega)) ?_
    refine op_pure (pv_assign (v := .int .i64 _) rfl) ?_
    refine ⟨k + 1, ⟨rfl, trivial⟩, rfl, rfl, E_k, fun h3 E3 => ⟨hka, by rw [take_snoc hka, take_snoc hkb, K2, hd']⟩, by first | omega | (dsimp only; omega), ?_⟩
    repeat (first | exact off_base _ _ _ | refine off_upd (by decide) ?_ | refine off_updL rfl ?_ | refine off_mix rfl ?_)
  ·skip
   have hke : k = a.length := by have := geI hk; omega
   subst hke
   rw [List.take_length, hn', List.take_length] at K2
   refine xp_exit ?_
   refine xp_seq ?_
   refine xp_region rfl ?_
   refine op_pure (pv_assign (v := .bool _) rfl) ?_
   refine xp_ret ?_
   refine res_list (vs := [_]) Try.results103 ⟨resV_tmp rfl rfl, trivial⟩ fun V => ?_
   exact ⟨(Ext.trans E_k (ext_wl V)), boolE (decide_eq_true K2).symm⟩
theorem withoutR_ok (l : List Int) (n : Int) (A : Option Addr) (c : Nat) (h : AH) (R : Row h 1 intC A l) (hl : l.length < 2 ^ 20) :
  FnT Try.prog 128 #[.slice A l.length c, .int .i64 n] h (fun v h' => SlR h' 1 intC (l.filter fun x => x != n) v) := by
 refine call_body Try.func128 rfl Try.ntmps128 rfl ?_
 refine xp_seq ?_
 refine xp_region rfl ?_
 refine op_pure (pv_assign (v := .slice _ _ _) rfl) ?_
 refine goes_more ?_
 refine goes_norm [_] rfl ?_
 refine xp_seq ?_
 refine xp_region rfl ?_
 refine op_pure (pv_assign (v := .slice _ _ _) rfl) ?_
 refine xp_seq ?_
 refine xp_seq ?_
 refine xp_region rfl ?_
 refine op_pure (pv_assign (v := .int .i64 _) rfl) ?_
 refine xp_block ?_
 refine xp_loopL [5, 6, 7, 8, 9, 10, 11, 12, 13, 14, 15, 16, 17, 18, 19, 20, 21, 22, 23, 24, 25] 1 (α := Nat × Acc) (fun ⟨k, a⟩ => [(6, .int .i64 k), (5, .slice a.A a.n a.c)]) (fun ⟨k, a⟩ L => L.set 0 (a.p)) (fun ⟨k, a⟩ h_k => k ≤ l.length ∧ AccR 3 1 (((l.take k).filter fun x => x != n).flatMap intC) a) (fun ⟨k, a⟩ => l.length - k) ((0, acc0)) ⟨rfl, rfl, trivial⟩ (rfl) (⟨Nat.zero_le _, accR0⟩) ?_
 rintro ⟨k, a⟩ T1 h_k E_k J_k
 refine goes_norm [_] rfl ?_
 obtain ⟨K1, K2⟩ := J_k
 refine xp_seq ?_
 refine xp_seq ?_
 refine xp_region rfl ?_
 refine op_pure (pv_move (v := .int .i64 _) rfl) ?_
 refine op_pure (pv_move (v := .slice _ _ _) rfl) ?_
 refine op_pure (pv_len rfl rfl) ?_
 refine op_pure (pv_of (v := .bool _) rfl) ?_
 refine xp_cond rfl (fun hk => ?_) (fun hk => ?_)
 ·skip
  have hkl : k < l.length := ltI hk
  obtain ⟨g, off, hA, hc⟩ := (R.ext E_k).at (by omega) hkl
  have hfl : (((l.take k).filter fun x => x != n).flatMap intC).length ≤ k := by rw [flat_len (m := 1) (fun _ _ => rfl)]; have := List.length_filter_le (fun x => x != n) (l.take k); rw [List.length_take] at this; omega
  refine xp_skip ?_
  refine xp_seq ?_
  refine xp_block ?_
  refine xp_seq ?_
  refine xp_region rfl ?_
  refine op_pure (pv_move (v := .slice _ _ _) rfl) ?_
  refine op_pure (pv_move (v := .int .i64 _) rfl) ?_
  refine op_pure (pv_indexE rfl hA rfl rfl rfl (by omega) (by omega)) ?_
  refine op_load (v := .int .i64 _) rfl rfl ((hc) 0 _ rfl) ?_
  refine op_pure (pv_move (v := .int .i64 _) rfl) ?_
  refine op_pure (pv_of (v := .bool _) rfl) ?_
  refine xp_cond rfl (fun hd => ?_) (fun hd => ?_)
  ·skip
   obtain ⟨g2, off2, hA2, hc2⟩ := (R.ext E_k).at (by omega) hkl
   refine xp_region rfl ?_
   refine op_pure (pv_move (v := .slice _ _ _) rfl) ?_
   refine op_pure (pv_move (v := .slice _ _ _) rfl) ?_
   refine op_pure (pv_move (v := .int .i64 _) rfl) ?_
   refine op_pure (pv_indexE rfl hA2 rfl rfl rfl (by omega) (by omega)) ?_
   refine op_load (v := .int .i64 _) rfl rfl ((hc2) 0 _ rfl) ?_
   refine op_buildSlice (zc := [_]) (vs := [(0, .int .i64 _)]) (cs := [_]) rfl rfl rfl rfl rfl rfl rfl fun b24 hb24 => ?_
   refine wp_norm [_, _] rfl ?_
   refine op_appendR 0 K2 rfl rfl rfl (fun V => rdP V (i := 1) rfl) rfl rfl rfl rfl rfl rfl rfl rfl rfl (by omega) rfl (by simp only [List.length_cons, List.length_nil]; omega) fun a2 h2a E2a ha2 => ?_
   refine wp_norm [_, _] rfl ?_
   refine op_pure (pv_assign (v := .slice _ _ _) rfl) ?_
   refine xp_region rfl ?_
   refine op_pure (pv_move (v := .int .i64 _) rfl) ?_
   refine op_pure (pv_arith rfl (by omega)) ?_
   refine op_pure (pv_assign (v := .int .i64 _) rfl) ?_
   refine ⟨(k + 1, a2), ⟨rfl, rfl, trivial⟩, rfl, rfl, (Ext.trans E_k E2a), fun h3 E3 => ⟨hkl, by rw [take_snoc hkl, List.filter_append, List.filter_cons_of_pos (by exact hd), List.flatMap_append]; exact ha2⟩, by first | omega | (dsimp only; omega), ?_⟩
   repeat (first | exact off_base _ _ _ | refine off_upd (by decide) ?_ | refine off_updL rfl ?_ | refine off_mix rfl ?_)
  ·skip
   refine xp_skip ?_
   refine xp_region rfl ?_
   refine op_pure (pv_move (v := .int .i64 _) rfl) ?_
   refine op_pure (pv_arith rfl (by omega)) ?_
   refine op_pure (pv_assign (v := .int .i64 _) rfl) ?_
   refine ⟨(k + 1, a), ⟨rfl, rfl, trivial⟩, rfl, rfl, E_k, fun h3 E3 => ⟨hkl, by rw [take_snoc hkl, List.filter_append, List.filter_cons_of_neg (by rw [hd]; decide), List.filter_nil, List.append_nil]; exact K2⟩, by first | omega | (dsimp only; omega), ?_⟩
   repeat (first | exact off_base _ _ _ | refine off_upd (by decide) ?_ | refine off_updL rfl ?_ | refine off_mix rfl ?_)
 ·skip
  have hke : k = l.length := by have := geI hk; omega
  subst hke
  rw [List.take_length] at K2
  refine xp_exit ?_
  refine xp_seq ?_
  refine xp_region rfl ?_
  refine op_pure (pv_move (v := .slice _ _ _) rfl) ?_
  refine op_pure (pv_assign (v := .slice _ _ _) rfl) ?_
  refine xp_ret ?_
  refine res_list (vs := [_]) Try.results128 ⟨resV_tmp rfl rfl, trivial⟩ fun V => ?_
  exact ⟨(Ext.trans E_k (ext_wl V)), AccP.row (i := 0) K2 (by omega) (fun _ _ => rfl) V rfl⟩
theorem withR_ok (l : List Int) (n : Int) (A : Option Addr) (c : Nat) (h : AH) (R : Row h 1 intC A l) (hl : l.length < 2 ^ 20) :
  FnT Try.prog 127 #[.slice A l.length c, .int .i64 n] h (fun v h' => SlR h' 1 intC ((l.filter fun x => decide (x < n)) ++ [n] ++ l.filter fun x => decide (x > n)) v) := by
 refine call_body Try.func127 rfl Try.ntmps127 rfl ?_
 refine xp_seq ?_
 refine xp_region rfl ?_
 refine op_pure (pv_assign (v := .slice _ _ _) rfl) ?_
 refine goes_more ?_
 refine goes_norm [_] rfl ?_
 refine xp_seq ?_
 refine xp_region rfl ?_
 refine op_pure (pv_assign (v := .slice _ _ _) rfl) ?_
 refine xp_seq ?_
 refine xp_seq ?_
 refine xp_region rfl ?_
 refine op_pure (pv_assign (v := .int .i64 _) rfl) ?_
 refine xp_block ?_
 refine xp_loopL [5, 6, 8, 9, 10, 11, 12, 13, 14, 15, 16, 17, 18, 19, 20, 21, 22, 23, 24, 25, 26] 1 (α := Nat × Acc) (fun ⟨k, a⟩ => [(6, .int .i64 k), (5, .slice a.A a.n a.c)]) (fun ⟨k, a⟩ L => L.set 0 (a.p)) (fun ⟨k, a⟩ h_k => k ≤ l.length ∧ AccR 3 1 (((l.take k).filter fun x => decide (x < n)).flatMap intC) a) (fun ⟨k, a⟩ => l.length - k) ((0, acc0)) ⟨rfl, rfl, trivial⟩ (rfl) (⟨Nat.zero_le _, accR0⟩) ?_
 rintro ⟨k, a⟩ T1 h_k E_k J_k
 refine goes_norm [_] rfl ?_
 obtain ⟨K1, K2⟩ := J_k
 refine xp_seq ?_
 refine xp_seq ?_
 refine xp_region rfl ?_
 refine op_pure (pv_move (v := .int .i64 _) rfl) ?_
 refine op_pure (pv_move (v := .slice _ _ _) rfl) ?_
 refine op_pure (pv_len rfl rfl) ?_
 refine op_pure (pv_of (v := .bool _) rfl) ?_
 refine xp_cond rfl (fun hk => ?_) (fun hk => ?_)
 ·skip
  have hkl : k < l.length := ltI hk
  obtain ⟨g, off, hA, hc⟩ := (R.ext E_k).at (by omega) hkl
  have hfl : (((l.take k).filter fun x => decide (x < n)).flatMap intC).length ≤ k := by rw [flat_len (m := 1) (fun _ _ => rfl)]; have := List.length_filter_le (fun x => decide (x < n)) (l.take k); rw [List.length_take] at this; omega
  refine xp_skip ?_
  refine xp_seq ?_
  refine xp_block ?_
  refine xp_seq ?_
  refine xp_region rfl ?_
  refine op_pure (pv_move (v := .slice _ _ _) rfl) ?_
  refine op_pure (pv_move (v := .int .i64 _) rfl) ?_
  refine op_pure (pv_indexE rfl hA rfl rfl rfl (by omega) (by omega)) ?_
  refine op_load (v := .int .i64 _) rfl rfl ((hc) 0 _ rfl) ?_
  refine op_pure (pv_move (v := .int .i64 _) rfl) ?_
  refine op_pure (pv_of (v := .bool _) rfl) ?_
  refine xp_cond rfl (fun hd => ?_) (fun hd => ?_)
  ·skip
   obtain ⟨g2, off2, hA2, hc2⟩ := (R.ext E_k).at (by omega) hkl
   refine xp_region rfl ?_
   refine op_pure (pv_move (v := .slice _ _ _) rfl) ?_
   refine op_pure (pv_move (v := .slice _ _ _) rfl) ?_
   refine op_pure (pv_move (v := .int .i64 _) rfl) ?_
   refine op_pure (pv_indexE rfl hA2 rfl rfl rfl (by omega) (by omega)) ?_
   refine op_load (v := .int .i64 _) rfl rfl ((hc2) 0 _ rfl) ?_
   refine op_buildSlice (zc := [_]) (vs := [(0, .int .i64 _)]) (cs := [_]) rfl rfl rfl rfl rfl rfl rfl fun b25 hb25 => ?_
   refine wp_norm [_, _] rfl ?_
   refine op_appendR 0 K2 rfl rfl rfl (fun V => rdP V (i := 1) rfl) rfl rfl rfl rfl rfl rfl rfl rfl rfl (by omega) rfl (by simp only [List.length_cons, List.length_nil]; omega) fun a2 h2a E2a ha2 => ?_
   refine wp_norm [_, _] rfl ?_
   refine op_pure (pv_assign (v := .slice _ _ _) rfl) ?_
   refine xp_region rfl ?_
   refine op_pure (pv_move (v := .int .i64 _) rfl) ?_
   refine op_pure (pv_arith rfl (by omega)) ?_
   refine op_pure (pv_assign (v := .int .i64 _) rfl) ?_
   refine ⟨(k + 1, a2), ⟨rfl, rfl, trivial⟩, rfl, rfl, (Ext.trans E_k E2a), fun h3 E3 => ⟨hkl, by rw [take_snoc hkl, List.filter_append, List.filter_cons_of_pos (by exact hd), List.flatMap_append]; exact ha2⟩, by first | omega | (dsimp only; omega), ?_⟩
   repeat (first | exact off_base _ _ _ | refine off_upd (by decide) ?_ | refine off_updL rfl ?_ | refine off_mix rfl ?_)
  ·skip
   refine xp_skip ?_
   refine xp_region rfl ?_
   refine op_pure (pv_move (v := .int .i64 _) rfl) ?_
   refine op_pure (pv_arith rfl (by omega)) ?_
   refine op_pure (pv_assign (v := .int .i64 _) rfl) ?_
   refine ⟨(k + 1, a), ⟨rfl, rfl, trivial⟩, rfl, rfl, E_k, fun h3 E3 => ⟨hkl, by rw [take_snoc hkl, List.filter_append, List.filter_cons_of_neg (by rw [hd]; decide), List.filter_nil, List.append_nil]; exact K2⟩, by first | omega | (dsimp only; omega), ?_⟩
   repeat (first | exact off_base _ _ _ | refine off_upd (by decide) ?_ | refine off_updL rfl ?_ | refine off_mix rfl ?_)
 ·skip
  have hke : k = l.length := by have := geI hk; omega
  subst hke
  rw [List.take_length] at K2
  obtain ⟨f1, hf1⟩ : ∃ f1, f1 = (l.filter fun x => decide (x < n)) := ⟨_, rfl⟩
  have hf1l : f1.length ≤ l.length := by rw [hf1]; exact List.length_filter_le _ _
  rw [← hf1] at K2 ⊢
  refine xp_exit ?_
  refine xp_seq ?_
  refine xp_region rfl ?_
  refine op_pure (pv_move (v := .slice _ _ _) rfl) ?_
  refine op_pure (pv_move (v := .int .i64 _) rfl) ?_
  refine op_buildSlice (zc := [_]) (vs := [(0, .int .i64 _)]) (cs := [_]) rfl rfl rfl rfl rfl rfl rfl fun b29 hb29 => ?_
  refine wp_norm [_, _] rfl ?_
  refine op_appendR 0 K2 rfl rfl rfl (fun V => rdP V (i := 1) rfl) rfl rfl rfl rfl rfl rfl rfl rfl rfl (by omega) rfl (by rw [flat_len (m := 1) (fun _ _ => rfl)]; simp; omega) fun a0 h3a E3a ha0 => ?_
  refine wp_norm [_, _] rfl ?_
  refine op_pure (pv_assign (v := .slice _ _ _) rfl) ?_
  refine xp_seq ?_
  refine xp_seq ?_
  refine xp_region rfl ?_
  refine op_pure (pv_assign (v := .int .i64 _) rfl) ?_
  refine xp_block ?_
  refine xp_loopL [5, 7, 31, 32, 33, 34, 35, 36, 37, 38, 39, 40, 41, 42, 43, 44, 45, 46, 47, 48, 49] 2 (α := Nat × Acc) (fun ⟨j, a3⟩ => [(7, .int .i64 j), (5, .slice a3.A a3.n a3.c)]) (fun ⟨j, a3⟩ L => L.set 0 (a3.p)) (fun ⟨j, a3⟩ h_j => j ≤ l.length ∧ AccR 3 1 ((f1 ++ [n] ++ (l.take j).filter fun x => decide (x > n)).flatMap intC) a3) (fun ⟨j, a3⟩ => l.length - j) ((0, a0)) ⟨rfl, rfl, trivial⟩ (rfl) (⟨Nat.zero_le _, by rw [List.take_zero, List.filter_nil, List.append_nil, List.flatMap_append]; exact ha0⟩) ?_
  rintro ⟨j, a3⟩ T4 h_j E_j J_j
  refine goes_norm [_, _] rfl ?_
  obtain ⟨K3, K4⟩ := J_j
  refine xp_seq ?_
  refine xp_seq ?_
  refine xp_region rfl ?_
  refine op_pure (pv_move (v := .int .i64 _) rfl) ?_
  refine op_pure (pv_move (v := .slice _ _ _) rfl) ?_
  refine op_pure (pv_len rfl rfl) ?_
  refine op_pure (pv_of (v := .bool _) rfl) ?_
  refine xp_cond rfl (fun hj => ?_) (fun hj => ?_)
  ·skip
   have hjl : j < l.length := ltI hj
   obtain ⟨g, off, hA, hc⟩ := (R.ext (Ext.trans (Ext.trans E_k E3a) E_j)).at (by omega) hjl
   have hfl : ((f1 ++ [n] ++ (l.take j).filter fun x => decide (x > n)).flatMap intC).length ≤ f1.length + 1 + j := by rw [flat_len (m := 1) (fun _ _ => rfl), List.length_append, List.length_append]; have := List.length_filter_le (fun x => decide (x > n)) (l.take j); rw [List.length_take] at this; simp only [List.length_cons, List.length_nil]; omega
   refine xp_skip ?_
   refine xp_seq ?_
   refine xp_block ?_
   refine xp_seq ?_
   refine xp_region rfl ?_
   refine op_pure (pv_move (v := .slice _ _ _) rfl) ?_
   refine op_pure (pv_move (v := .int .i64 _) rfl) ?_
   refine op_pure (pv_indexE rfl hA rfl rfl rfl (by omega) (by omega)) ?_
   refine op_load (v := .int .i64 _) rfl rfl ((hc) 0 _ rfl) ?_
   refine op_pure (pv_move (v := .int .i64 _) rfl) ?_
   refine op_pure (pv_of (v := .bool _) rfl) ?_
   refine xp_cond rfl (fun hd => ?_) (fun hd => ?_)
   ·skip
    obtain ⟨g2, off2, hA2, hc2⟩ := (R.ext (Ext.trans (Ext.trans E_k E3a) E_j)).at (by omega) hjl
    refine xp_region rfl ?_
    refine op_pure (pv_move (v := .slice _ _ _) rfl) ?_
    refine op_pure (pv_move (v := .slice _ _ _) rfl) ?_
    refine op_pure (pv_move (v := .int .i64 _) rfl) ?_
    refine op_pure (pv_indexE rfl hA2 rfl rfl rfl (by omega) (by omega)) ?_
    refine op_load (v := .int .i64 _) rfl rfl ((hc2) 0 _ rfl) ?_
    refine op_buildSlice (zc := [_]) (vs := [(0, .int .i64 _)]) (cs := [_]) rfl rfl rfl rfl rfl rfl rfl fun b48 hb48 => ?_
    refine wp_norm [_, _, _] rfl ?_
    refine op_appendR 0 K4 rfl rfl rfl (fun V => rdP V (i := 2) rfl) rfl rfl rfl rfl rfl rfl rfl rfl rfl (by omega) rfl (by simp only [List.length_cons, List.length_nil]; omega) fun a2 h5a E5a ha2 => ?_
    refine wp_norm [_, _, _] rfl ?_
    refine op_pure (pv_assign (v := .slice _ _ _) rfl) ?_
    refine xp_region rfl ?_
    refine op_pure (pv_move (v := .int .i64 _) rfl) ?_
    refine op_pure (pv_arith rfl (by omega)) ?_
    refine op_pure (pv_assign (v := .int .i64 _) rfl) ?_
    refine ⟨(j + 1, a2), ⟨rfl, rfl, trivial⟩, rfl, rfl, (Ext.trans E_j E5a), fun h3 E3 => ⟨hjl, by rw [take_snoc hjl, List.filter_append, List.filter_cons_of_pos (by exact hd), List.filter_nil, ← List.append_assoc, List.flatMap_append]; exact ha2⟩, by first | omega | (dsimp only; omega), ?_⟩
    repeat (first | exact off_base _ _ _ | refine off_upd (by decide) ?_ | refine off_updL rfl ?_ | refine off_mix rfl ?_)
   ·skip
    refine xp_skip ?_
    refine xp_region rfl ?_
    refine op_pure (pv_move (v := .int .i64 _) rfl) ?_
    refine op_pure (pv_arith rfl (by omega)) ?_
    refine op_pure (pv_assign (v := .int .i64 _) rfl) ?_
    refine ⟨(j + 1, a3), ⟨rfl, rfl, trivial⟩, rfl, rfl, E_j, fun h3 E3 => ⟨hjl, by rw [take_snoc hjl, List.filter_append, List.filter_cons_of_neg (by rw [hd]; decide), List.filter_nil, List.append_nil]; exact K4⟩, by first | omega | (dsimp only; omega), ?_⟩
    repeat (first | exact off_base _ _ _ | refine off_upd (by decide) ?_ | refine off_updL rfl ?_ | refine off_mix rfl ?_)
  ·skip
   have hje : j = l.length := by have := geI hj; omega
   subst hje
   rw [List.take_length] at K4
   refine xp_exit ?_
   refine xp_seq ?_
   refine xp_region rfl ?_
   refine op_pure (pv_move (v := .slice _ _ _) rfl) ?_
   refine op_pure (pv_assign (v := .slice _ _ _) rfl) ?_
   refine xp_ret ?_
   refine res_list (vs := [_]) Try.results127 ⟨resV_tmp rfl rfl, trivial⟩ fun V => ?_
   exact ⟨(Ext.trans (Ext.trans (Ext.trans E_k E3a) E_j) (ext_wl V)), AccP.row (i := 0) K4 (by omega) (fun _ _ => rfl) V rfl⟩
end
end Go.Proofs.Ythphpbdmbmiaiaa
/- The own logic, part GT: the first and the last part of a slice. Conditions: none. -/
namespace Go.HL
open Go
variable [Lvl]
section
variable {P : Program} {n : Nat} {d : Option Tmp} {ty : TypeId} {ps : String} {af : Array Edge} {S : Sl}
theorem pv_sliceHi {x hi : Operand} {t e : TypeId} {m len cap : Nat} {A : Option Addr} (j : Nat) {k2 : IntKind} {j' : Int} (hx : ev n S x = .slice A len cap) (hh : ev n S hi = .int k2 j') (ej : j' = j) (ht : pev P (underlying t) = some (.slice e)) (hs : pev P (sizeOf e) = some m) (hjc : j ≤ cap) :
  pev P (execOp (ev n S) ⟨d, .slice t x none (some hi) none, ty, ps, af, none⟩) = some (.value (.slice A j cap)) := by
 subst ej
 simp only [execOp, hx, hh, Option.map]
 refine (pev_bind (a := .slice A j cap) ?_).trans rfl
 unfold Instr.sliceAt
 refine (pev_mbind ht).trans ?_
 simp only
 unfold Instr.slice
 refine (pev_mbind ht).trans ?_
 simp only
 have hb : pev P (Instr.sliceBounds true len cap none (some (.int k2 (j : Int))) none) = some (0, j, cap) := by
  unfold Instr.sliceBounds
  refine (pev_mbind (a := cap) rfl).trans ?_
  have h1 : pev P (Instr.sliceBound (.int k2 (j : Int)) cap .sliceAcap) = some j := by
   unfold Instr.sliceBound
   refine (pev_mbind (a := (k2, (j : Int))) rfl).trans ?_
   simp only
   rw [if_pos ⟨by omega, by omega⟩]
   rfl
  refine (pev_mbind h1).trans ?_
  rfl
 refine (pev_mbind hb).trans ?_
 simp only
 refine (pev_mbind hs).trans ?_
 have e0 : (if cap = 0 then A else A.map (·.add (0 * m))) = A := by
  split
  ·rfl
  ·cases A <;> simp [Addr.add]
 show some (Value.slice (if cap = 0 then A else A.map (·.add (0 * m))) (j - 0) (cap - 0)) = _
 rw [e0]
 rfl
theorem pv_sliceLo {x lo : Operand} {t e : TypeId} {m len cap : Nat} {A : Option Addr} (i : Nat) {k : IntKind} {i' : Int} (hx : ev n S x = .slice A len cap) (hl : ev n S lo = .int k i') (ei : i' = i) (ht : pev P (underlying t) = some (.slice e)) (hs : pev P (sizeOf e) = some m) (hij : i ≤ len) (hc : len ≤ cap) :
  pev P (execOp (ev n S) ⟨d, .slice t x (some lo) none none, ty, ps, af, none⟩) = some (.value (.slice (if cap = i then A else A.map (·.add (i * m))) (len - i) (cap - i))) := by
 subst ei
 simp only [execOp, hx, hl, Option.map]
 refine (pev_bind (a := .slice (if cap = i then A else A.map (·.add (i * m))) (len - i) (cap - i)) ?_).trans rfl
 unfold Instr.sliceAt
 refine (pev_mbind ht).trans ?_
 simp only
 unfold Instr.slice
 refine (pev_mbind ht).trans ?_
 simp only
 have hb : pev P (Instr.sliceBounds true len cap (some (.int k (i : Int))) none none) = some (i, len, cap) := by
  unfold Instr.sliceBounds
  refine (pev_mbind (a := cap) rfl).trans ?_
  have h1 : ∀ f, pev P (Instr.sliceBound (.int .i64 (len : Int)) cap f) = some len := by
   intro f
   unfold Instr.sliceBound
   refine (pev_mbind (a := (IntKind.i64, (len : Int))) rfl).trans ?_
   simp only
   rw [if_pos ⟨by omega, by omega⟩]
   rfl
  have h2 : pev P (Instr.sliceBound (.int k (i : Int)) len .sliceB) = some i := by
   unfold Instr.sliceBound
   refine (pev_mbind (a := (k, (i : Int))) rfl).trans ?_
   simp only
   rw [if_pos ⟨by omega, by omega⟩]
   rfl
  first
  | (refine (pev_mbind (a := len) rfl).trans ?_; refine (pev_mbind h2).trans ?_; rfl)
  | (refine (pev_mbind (a := len) (h1 _)).trans ?_; refine (pev_mbind h2).trans ?_; rfl)
 refine (pev_mbind hb).trans ?_
 simp only
 refine (pev_mbind hs).trans ?_
 rfl
end
theorem rd_drop {H : AH} {A : Option Addr} {cs : List Value} (r : Rd H A cs) (k : Nat) : Rd H (A.map (·.add k)) (cs.drop k) := fun hne => by
 obtain ⟨g, off, rfl, c⟩ := r (fun e => hne (by rw [e, List.drop_nil]))
 refine ⟨g, off + k, by simp [Addr.add], fun j u hu => ?_⟩
 rw [List.getElem?_drop] at hu
 have := c (k + j) u hu
 rw [← Nat.add_assoc] at this
 exact this
end Go.HL
/- Walks of the reference: a machine without a pin, without a link; all faults. Conditions: as each theorem states. -/
namespace Go.Proofs.Ythphpbdmbmiaiaa
open Go Go.HL Go.Proofs Go.Wx Go.Rd
section
variable [Lvl]
set_option maxRecDepth 100000
theorem flat_take {α : Type} (enc : α → List Value) (l : List α) (k : Nat) : (l.take k).flatMap enc = (l.flatMap enc).take ((l.take k).flatMap enc).length := by
 have e : l.flatMap enc = (l.take k).flatMap enc ++ (l.drop k).flatMap enc := by rw [← List.flatMap_append, List.take_append_drop]
 rw [e, List.take_left']
 rfl
theorem flat_drop {α : Type} (enc : α → List Value) (l : List α) (k : Nat) : (l.drop k).flatMap enc = (l.flatMap enc).drop ((l.take k).flatMap enc).length := by
 have e : l.flatMap enc = (l.take k).flatMap enc ++ (l.drop k).flatMap enc := by rw [← List.flatMap_append, List.take_append_drop]
 rw [e, List.drop_left']
 rfl
theorem row_take {α : Type} {enc : α → List Value} {h : AH} {A : Option Addr} {l : List α} {m : Nat} (R : Row h m enc A l) (k : Nat) : Row h m enc A (l.take k) :=
 ⟨fun x hx => R.1 x (take_mem hx), by rw [flat_take]; exact rd_take R.2 _⟩
theorem row_drop {α : Type} {enc : α → List Value} {h : AH} {A : Option Addr} {l : List α} {m k cap : Nat} (R : Row h m enc A l) (hk : k ≤ l.length) (hc : l.length ≤ cap) : Row h m enc (if cap = k then A else A.map (·.add (k * m))) (l.drop k) := by
 refine ⟨fun x hx => R.1 x (List.mem_of_mem_drop hx), ?_⟩
 split
 ·rw [List.drop_of_length_le (by omega)]
  exact Rd.nil _ _
 ·have e : ((l.take k).flatMap enc).length = k * m := by
   rw [flat_len (m := m) (fun x hx => R.1 x (take_mem hx)), List.length_take, Nat.min_eq_left hk]
  have := rd_drop R.2 (k * m)
  rw [flat_drop, e]
  exact this
theorem row_acc {α : Type} {e : TypeId} {m : Nat} {enc : α → List Value} {l : List α} {a : Acc} {L : Pv} {h : AH} {i : Nat} (r : AccR e m (l.flatMap enc) a) (hm : 0 < m) (hl : ∀ x ∈ l, (enc x).length = m) (V : Valid h L) (hi : L[i]? = some a.p) : Row (wl h L) m enc a.A l := by
 obtain ⟨A', c', e, r⟩ := AccP.row r hm hl V hi
 injection e with e1 e2 e3
 rw [e1]
 exact r
set_option maxHeartbeats 2000000 in
theorem WithoutPinR_ok (m : MachP) (i : Nat) (hi : i < m.pins.length) (hl : m.pins.length < 2 ^ 20) (AB AQ AL AW : Option Addr) (cB cQ cL cW : Nat) (hc : m.pins.length ≤ cQ) (h : AH) (R : Row h 3 pinC AQ m.pins) :
  FnT Try.prog 64 #[machV AB AQ AL AW cB cQ cL cW m, .int .i64 i] h (fun v h' => ∃ A c, v = machV AB A AL AW cB c cL cW { m with pins := m.pins.eraseIdx i } ∧ Row h' 3 pinC A (m.pins.eraseIdx i) ∧ (m.pins.eraseIdx i).length ≤ c) := by
 have el : (m.pins.take i).length = i := by rw [List.length_take]; omega
 have ee : m.pins.eraseIdx i = m.pins.take i ++ m.pins.drop (i + 1) := List.eraseIdx_eq_take_drop_succ ..
 have ed : (m.pins.drop (i + 1)).length = m.pins.length - (i + 1) := List.length_drop ..
 refine call_body Try.func64 rfl Try.ntmps64 rfl ?_
 refine xp_seq ?_
 refine xp_region rfl ?_
 refine op_box (v := .agg #[.int .i64 _, .int .i64 _, .int .i64 _, .int .i64 _, .int .i64 _, .slice _ _ _, .slice _ _ _, .slice _ _ _, .slice _ _ _]) (cs := [_, _, _, _, _, _, _, _, _]) rfl rfl fun b2 hb2 => ?_
 refine wp_norm [_] rfl ?_
 refine op_alloc (cs := [_, _, _, _, _, _, _, _, _]) rfl rfl fun b4 hb4 => ?_
 refine wp_norm [_, _] rfl ?_
 refine xp_seq ?_
 refine xp_dw [false, false, true] rfl rfl rfl ?_
 refine dw_pure (i := 1) rfl (by decide +kernel) (pv_fieldAddr rfl rfl rfl rfl 6 rfl) ?_
 refine dw_load (i := 2) rfl (by decide +kernel) ?_
 refine op_loadP 0 (v := .slice _ _ _) rfl rfl rfl rfl ?_
 refine dw_pure (i := 3) rfl (by decide +kernel) (pv_move (v := .int .i64 _) rfl) ?_
 refine dw_pure (i := 4) rfl (by decide +kernel) (pv_sliceHi i rfl rfl rfl rfl rfl (by omega)) ?_
 have R1 := row_take R i
 have R2 := row_drop (k := i + 1) (cap := cQ) R hi hc
 refine dw_pure (i := 6) rfl (by decide +kernel) (pv_fieldAddr rfl rfl rfl rfl 6 rfl) ?_
 refine dw_load (i := 7) rfl (by decide +kernel) ?_
 refine op_loadP 0 (v := .slice _ _ _) rfl rfl rfl rfl ?_
 refine dw_pure (i := 8) rfl (by decide +kernel) (pv_move (v := .int .i64 _) rfl) ?_
 refine dw_pure (i := 9) rfl (by decide +kernel) (pv_arith rfl (by omega)) ?_
 refine dw_pure (i := 10) rfl (by decide +kernel) (pv_sliceLo (i + 1) rfl rfl (by omega) rfl rfl (by omega) hc) ?_
 refine dw_eff (i := 0) rfl (by decide +kernel) ?_
 refine op_buildSlice (zc := [_, _, _]) (vs := []) (cs := []) rfl rfl rfl rfl rfl rfl rfl fun b5 hb5 => ?_
 refine ⟨ext_newM hb5 _, ?_⟩
 refine dw_norm [_, _, _] rfl ?_
 refine dw_eff (i := 5) rfl (by decide +kernel) ?_
 refine op_appendR 2 accR_new rfl rfl rfl (fun V => R1.2.ext (Ext.trans (Ext.refl _) (ext_wl V))) ((flat_len R1.1).trans (congrArg (· * 3) el)) (flat_plain pinP (m.pins.take i)) rfl rfl rfl rfl rfl rfl rfl (by omega) rfl (by have e1 := flat_len R1.1; rw [List.length_nil]; omega) fun a1 h1a E1a ha1 => ?_
 refine ⟨ext_wlm E1a _, ?_⟩
 refine dw_norm [_, _, _] rfl ?_
 refine dw_last (i := 11) rfl (by decide +kernel) (by decide +kernel) ?_
 refine op_appendR 2 ha1 rfl rfl rfl (fun V => R2.2.ext (Ext.trans E1a (ext_wl V))) ((flat_len R2.1).trans (congrArg (· * 3) ed)) (flat_plain pinP (m.pins.drop (i + 1))) rfl rfl rfl rfl rfl rfl rfl (by omega) rfl (by have e1 := flat_len R1.1; have e2 := flat_len R2.1; rw [List.nil_append]; omega) fun a2 h2a E2a ha2 => ?_
 refine dw_norm [_, _, _] rfl ?_
 refine dw_pure (i := 12) rfl (by decide +kernel) (pv_fieldAddr rfl rfl rfl rfl 6 rfl) ?_
 refine dw_last (i := 13) rfl (by decide +kernel) (by decide +kernel) ?_
 refine op_storeP 0 (v := .slice _ _ _) (vs := [_]) (c' := [_, _, _, _, _, _, _, _, _]) rfl rfl rfl rfl rfl rfl rfl rfl rfl ?_
 refine dw_norm [_, _, _] rfl ?_
 refine dw_end rfl ?_
 refine xp_seq ?_
 refine xp_region rfl ?_
 refine op_loadPA 0 (vs := [.int .i64 _, .int .i64 _, .int .i64 _, .int .i64 _, .int .i64 _, .slice _ _ _, .slice _ _ _, .slice _ _ _, .slice _ _ _]) rfl rfl rfl rfl rfl ?_
 refine op_storeP 1 (v := .agg #[.int .i64 _, .int .i64 _, .int .i64 _, .int .i64 _, .int .i64 _, .slice _ _ _, .slice _ _ _, .slice _ _ _, .slice _ _ _]) (vs := [_, _, _, _, _, _, _, _, _]) (c' := [_, _, _, _, _, _, _, _, _]) rfl rfl rfl rfl rfl rfl rfl rfl rfl ?_
 refine wp_norm [_, _, _] rfl ?_
 have ha3 : AccR 36 3 ((m.pins.eraseIdx i).flatMap pinC) a2 := by rw [ee, List.flatMap_append]; exact ha2
 obtain ⟨p8, A8, n8, c8⟩ := a2
 obtain rfl : n8 = (m.pins.eraseIdx i).length := by have := AccR.len ha3; rw [flat_len (m := 3) (fun _ _ => rfl)] at this; dsimp only at this; omega
 refine xp_ret ?_
 refine res_list (vs := [_]) Try.results64 ⟨resV_agg 1 rfl rfl rfl rfl rfl (vs := [.int .i64 _, .int .i64 _, .int .i64 _, .int .i64 _, .int .i64 _, .slice _ _ _, .slice _ _ _, .slice _ _ _, .slice _ _ _]) rfl, trivial⟩ fun V => ?_
 exact ⟨(Ext.trans (Ext.trans E1a E2a) (ext_wl V)), A8, c8, rfl, row_acc (i := 2) ha3 (by omega) (fun _ _ => rfl) V rfl, AccP.cap ha3 (by omega)⟩
set_option maxHeartbeats 2000000 in
theorem WithoutLinkR_ok (m : MachP) (i : Nat) (hi : i < m.links.length) (hl : m.links.length < 2 ^ 20) (AB AQ AL AW : Option Addr) (cB cQ cL cW : Nat) (hc : m.links.length ≤ cL) (h : AH) (R : Row h 4 linkC AL m.links) :
  FnT Try.prog 126 #[machV AB AQ AL AW cB cQ cL cW m, .int .i64 i] h (fun v h' => ∃ A c, v = machV AB AQ A AW cB cQ c cW { m with links := m.links.eraseIdx i } ∧ Row h' 4 linkC A (m.links.eraseIdx i) ∧ (m.links.eraseIdx i).length ≤ c) := by
 have el : (m.links.take i).length = i := by rw [List.length_take]; omega
 have ee : m.links.eraseIdx i = m.links.take i ++ m.links.drop (i + 1) := List.eraseIdx_eq_take_drop_succ ..
 have ed : (m.links.drop (i + 1)).length = m.links.length - (i + 1) := List.length_drop ..
 refine call_body Try.func126 rfl Try.ntmps126 rfl ?_
 refine xp_seq ?_
 refine xp_region rfl ?_
 refine op_box (v := .agg #[.int .i64 _, .int .i64 _, .int .i64 _, .int .i64 _, .int .i64 _, .slice _ _ _, .slice _ _ _, .slice _ _ _, .slice _ _ _]) (cs := [_, _, _, _, _, _, _, _, _]) rfl rfl fun b2 hb2 => ?_
 refine wp_norm [_] rfl ?_
 refine op_alloc (cs := [_, _, _, _, _, _, _, _, _]) rfl rfl fun b4 hb4 => ?_
 refine wp_norm [_, _] rfl ?_
 refine xp_seq ?_
 refine xp_dw [false, false, true] rfl rfl rfl ?_
 refine dw_pure (i := 1) rfl (by decide +kernel) (pv_fieldAddr rfl rfl rfl rfl 7 rfl) ?_
 refine dw_load (i := 2) rfl (by decide +kernel) ?_
 refine op_loadP 0 (v := .slice _ _ _) rfl rfl rfl rfl ?_
 refine dw_pure (i := 3) rfl (by decide +kernel) (pv_move (v := .int .i64 _) rfl) ?_
 refine dw_pure (i := 4) rfl (by decide +kernel) (pv_sliceHi i rfl rfl rfl rfl rfl (by omega)) ?_
 have R1 := row_take R i
 have R2 := row_drop (k := i + 1) (cap := cL) R hi hc
 refine dw_pure (i := 6) rfl (by decide +kernel) (pv_fieldAddr rfl rfl rfl rfl 7 rfl) ?_
 refine dw_load (i := 7) rfl (by decide +kernel) ?_
 refine op_loadP 0 (v := .slice _ _ _) rfl rfl rfl rfl ?_
 refine dw_pure (i := 8) rfl (by decide +kernel) (pv_move (v := .int .i64 _) rfl) ?_
 refine dw_pure (i := 9) rfl (by decide +kernel) (pv_arith rfl (by omega)) ?_
 refine dw_pure (i := 10) rfl (by decide +kernel) (pv_sliceLo (i + 1) rfl rfl (by omega) rfl rfl (by omega) hc) ?_
 refine dw_eff (i := 0) rfl (by decide +kernel) ?_
 refine op_buildSlice (zc := [_, _, _, _]) (vs := []) (cs := []) rfl rfl rfl rfl rfl rfl rfl fun b5 hb5 => ?_
 refine ⟨ext_newM hb5 _, ?_⟩
 refine dw_norm [_, _, _] rfl ?_
 refine dw_eff (i := 5) rfl (by decide +kernel) ?_
 refine op_appendR 2 accR_new rfl rfl rfl (fun V => R1.2.ext (Ext.trans (Ext.refl _) (ext_wl V))) ((flat_len R1.1).trans (congrArg (· * 4) el)) (flat_plain linkP (m.links.take i)) rfl rfl rfl rfl rfl rfl rfl (by omega) rfl (by have e1 := flat_len R1.1; rw [List.length_nil]; omega) fun a1 h1a E1a ha1 => ?_
 refine ⟨ext_wlm E1a _, ?_⟩
 refine dw_norm [_, _, _] rfl ?_
 refine dw_last (i := 11) rfl (by decide +kernel) (by decide +kernel) ?_
 refine op_appendR 2 ha1 rfl rfl rfl (fun V => R2.2.ext (Ext.trans E1a (ext_wl V))) ((flat_len R2.1).trans (congrArg (· * 4) ed)) (flat_plain linkP (m.links.drop (i + 1))) rfl rfl rfl rfl rfl rfl rfl (by omega) rfl (by have e1 := flat_len R1.1; have e2 := flat_len R2.1; rw [List.nil_append]; omega) fun a2 h2a E2a ha2 => ?_
 refine dw_norm [_, _, _] rfl ?_
 refine dw_pure (i := 12) rfl (by decide +kernel) (pv_fieldAddr rfl rfl rfl rfl 7 rfl) ?_
 refine dw_last (i := 13) rfl (by decide +kernel) (by decide +kernel) ?_
 refine op_storeP 0 (v := .slice _ _ _) (vs := [_]) (c' := [_, _, _, _, _, _, _, _, _]) rfl rfl rfl rfl rfl rfl rfl rfl rfl ?_
 refine dw_norm [_, _, _] rfl ?_
 refine dw_end rfl ?_
 refine xp_seq ?_
 refine xp_region rfl ?_
 refine op_loadPA 0 (vs := [.int .i64 _, .int .i64 _, .int .i64 _, .int .i64 _, .int .i64 _, .slice _ _ _, .slice _ _ _, .slice _ _ _, .slice _ _ _]) rfl rfl rfl rfl rfl ?_
 refine op_storeP 1 (v := .agg #[.int .i64 _, .int .i64 _, .int .i64 _, .int .i64 _, .int .i64 _, .slice _ _ _, .slice _ _ _, .slice _ _ _, .slice _ _ _]) (vs := [_, _, _, _, _, _, _, _, _]) (c' := [_, _, _, _, _, _, _, _, _]) rfl rfl rfl rfl rfl rfl rfl rfl rfl ?_
 refine wp_norm [_, _, _] rfl ?_
 have ha3 : AccR 39 4 ((m.links.eraseIdx i).flatMap linkC) a2 := by rw [ee, List.flatMap_append]; exact ha2
 obtain ⟨p8, A8, n8, c8⟩ := a2
 obtain rfl : n8 = (m.links.eraseIdx i).length := by have := AccR.len ha3; rw [flat_len (m := 4) (fun _ _ => rfl)] at this; dsimp only at this; omega
 refine xp_ret ?_
 refine res_list (vs := [_]) Try.results126 ⟨resV_agg 1 rfl rfl rfl rfl rfl (vs := [.int .i64 _, .int .i64 _, .int .i64 _, .int .i64 _, .int .i64 _, .slice _ _ _, .slice _ _ _, .slice _ _ _, .slice _ _ _]) rfl, trivial⟩ fun V => ?_
 exact ⟨(Ext.trans (Ext.trans E1a E2a) (ext_wl V)), A8, c8, rfl, row_acc (i := 2) ha3 (by omega) (fun _ _ => rfl) V rfl, AccP.cap ha3 (by omega)⟩
def conK : Nat → Nat → FaultP
 | 0 => .shut
 | 1 => .opn
 | 2 => .pin
 | _ => .link
def cntK (m : MachP) : Nat → Nat
 | 0 => m.levers.toNat
 | 1 => m.levers.toNat
 | 2 => m.pins.length
 | 3 => m.links.length
 | _ => 0
def fsK (m : MachP) : Nat → List FaultP
 | 0 => []
 | q + 1 => fsK m q ++ fsN (conK q) (cntK m q)
theorem fsK4 (m : MachP) : fsK m 4 = faultsM m := by simp [fsK, faultsM, fs3, fs2, fs1, conK, cntK]
theorem toldK {q : Nat} (hq : q < 4) (i : Nat) : toldC (conK q i) = [.int .i64 ((q : Int) + 1), .int .i64 i] := by
 match q, hq with
 | 0, _ => rfl
 | 1, _ => rfl
 | 2, _ => rfl
 | 3, _ => rfl
theorem cntK_at {m : MachP} {q : Nat} (hq : q < 4) (h0 : 0 ≤ m.levers) : [m.levers, m.levers, (m.pins.length : Int), (m.links.length : Int)].getD q 0 = (cntK m q : Nat) := by
 match q, hq with
 | 0, _ => show m.levers = (m.levers.toNat : Int); omega
 | 1, _ => show m.levers = (m.levers.toNat : Int); omega
 | 2, _ => rfl
 | 3, _ => rfl
theorem cntK_le {m : MachP} (M : MOK m) (q : Nat) : cntK m q ≤ 8 := by
 have := M.levers
 have := M.pl
 have := M.ll
 match q with
 | 0 => show m.levers.toNat ≤ 8; omega
 | 1 => show m.levers.toNat ≤ 8; omega
 | 2 => show m.pins.length ≤ 8; omega
 | 3 => show m.links.length ≤ 8; omega
 | q + 4 => exact Nat.zero_le _
theorem fsK_len {m : MachP} (M : MOK m) : ∀ q, (fsK m q).length ≤ 8 * q
 | 0 => Nat.le_refl _
 | q + 1 => by
  have h1 := fsK_len M q
  have h2 := cntK_le M q
  rw [fsK, List.length_append, fsN_len]
  omega
set_option maxHeartbeats 2000000 in
theorem faultsR_ok (m : MachP) (M : MOK m) (AB AQ AL AW : Option Addr) (cB cQ cL cW : Nat) (h : AH) :
  FnT Try.prog 95 #[machV AB AQ AL AW cB cQ cL cW m] h (fun v h' => SlR h' 2 toldC (faultsM m) v) := by
 have mlv := M.levers
 have mpl := M.pl
 have mll := M.ll
 refine call_body Try.func95 rfl Try.ntmps95 rfl ?_
 refine xp_seq ?_
 refine xp_region rfl ?_
 refine op_box (v := .agg #[.int .i64 _, .int .i64 _, .int .i64 _, .int .i64 _, .int .i64 _, .slice _ _ _, .slice _ _ _, .slice _ _ _, .slice _ _ _]) (cs := [_, _, _, _, _, _, _, _, _]) rfl rfl fun b1 hb1 => ?_
 refine wp_norm [_] rfl ?_
 refine op_pure (pv_assign (v := .slice _ _ _) rfl) ?_
 refine goes_more ?_
 refine goes_norm [_, _] rfl ?_
 refine xp_seq ?_
 refine xp_region rfl ?_
 refine op_pure (pv_assign (v := .slice _ _ _) rfl) ?_
 refine xp_seq ?_
 refine xp_region rfl ?_
 refine op_pure (pv_fieldAddr rfl rfl rfl rfl 1 rfl) ?_
 refine op_loadP 0 (v := .int .i64 _) rfl rfl rfl rfl ?_
 refine op_pure (pv_fieldAddr rfl rfl rfl rfl 1 rfl) ?_
 refine op_loadP 0 (v := .int .i64 _) rfl rfl rfl rfl ?_
 refine op_pure (pv_fieldAddr rfl rfl rfl rfl 6 rfl) ?_
 refine op_loadP 0 (v := .slice _ _ _) rfl rfl rfl rfl ?_
 refine op_pure (pv_len rfl rfl) ?_
 refine op_pure (pv_fieldAddr rfl rfl rfl rfl 7 rfl) ?_
 refine op_loadP 0 (v := .slice _ _ _) rfl rfl rfl rfl ?_
 refine op_pure (pv_len rfl rfl) ?_
 refine op_buildSlice (zc := [_]) (vs := [(0, .int .i64 _), (1, .int .i64 _), (2, .int .i64 _), (3, .int .i64 _)]) (cs := [_, _, _, _]) rfl rfl rfl rfl rfl rfl rfl fun b17 hb17 => ?_
 refine wp_norm [_, _, _] rfl ?_
 refine op_pure (pv_assign (v := .slice _ _ _) rfl) ?_
 refine xp_seq ?_
 refine xp_seq ?_
 refine xp_region rfl ?_
 refine op_pure (pv_assign (v := .int .i64 _) rfl) ?_
 refine xp_block ?_
 refine xp_loopL [3, 5, 6, 18, 19, 20, 21, 22, 23, 24, 25, 26, 27, 28, 29, 30, 31, 32, 33, 34, 35, 36] 3 (α := Nat × Acc) (fun ⟨q, a⟩ => [(5, .int .i64 ((q : Int) + 1)), (3, .slice a.A a.n a.c)]) (fun ⟨q, a⟩ L => L.set 1 (a.p)) (fun ⟨q, a⟩ h_q => q ≤ 4 ∧ AccR 87 2 ((fsK m q).flatMap toldC) a) (fun ⟨q, a⟩ => 4 - q) ((0, acc0)) ⟨rfl, rfl, trivial⟩ (rfl) (⟨Nat.zero_le _, accR0⟩) ?_
 rintro ⟨q, a⟩ T1 h_q E_q J_q
 refine goes_norm [_, _, _] rfl ?_
 obtain ⟨J1, J2⟩ := J_q
 refine xp_seq ?_
 refine xp_seq ?_
 refine xp_region rfl ?_
 refine op_pure (pv_move (v := .int .i64 _) rfl) ?_
 refine op_pure (pv_of (v := .bool _) rfl) ?_
 refine xp_cond rfl (fun hq => ?_) (fun hq => ?_)
 ·skip
  have hql : q < 4 := by have := of_decide_eq_true hq; omega
  have hcn := cntK_at (m := m) hql (by omega)
  have hcl := cntK_le M q
  have hfl := fsK_len M q
  refine xp_skip ?_
  refine xp_seq ?_
  refine xp_block ?_
  refine xp_seq ?_
  refine xp_region rfl ?_
  refine op_pure (pv_assign (v := .int .i64 _) rfl) ?_
  refine xp_block ?_
  refine xp_loopL [3, 6, 22, 23, 24, 25, 26, 27, 28, 29, 30, 31, 32, 33, 34, 35, 36] 3 (α := Nat × Acc) (fun ⟨i, a2⟩ => [(6, .int .i64 i), (3, .slice a2.A a2.n a2.c)]) (fun ⟨i, a2⟩ L => L.set 1 (a2.p)) (fun ⟨i, a2⟩ h_i => i ≤ cntK m q ∧ AccR 87 2 ((fsK m q ++ fsN (conK q) i).flatMap toldC) a2) (fun ⟨i, a2⟩ => cntK m q - i) ((0, a)) ⟨rfl, rfl, trivial⟩ (rfl) (⟨Nat.zero_le _, by simpa [fsN] using J2⟩) ?_
  rintro ⟨i, a2⟩ T2 h_i E_i J_i
  refine goes_norm [_, _, _] rfl ?_
  obtain ⟨K1, K2⟩ := J_i
  refine xp_seq ?_
  refine xp_seq ?_
  refine xp_region rfl ?_
  refine op_pure (pv_move (v := .int .i64 _) rfl) ?_
  refine op_pure (pv_move (v := .slice _ _ _) rfl) ?_
  refine op_pure (pv_move (v := .int .i64 _) rfl) ?_
  refine op_pure (pv_arith rfl (by omega)) ?_
  refine op_pure (pv_index (m := 1) rfl rfl rfl rfl (by omega) (by omega)) ?_
  refine op_loadP 2 (v := .int .i64 (cntK m q : Nat)) rfl rfl rfl (by rw [← hcn]; exact tV_at (t := [m.levers, m.levers, (m.pins.length : Int), (m.links.length : Int)]) (by omega) hql) ?_
  refine op_pure (pv_of (v := .bool _) rfl) ?_
  refine xp_cond rfl (fun hi => ?_) (fun hi => ?_)
  ·skip
   have hil : i < cntK m q := ltI hi
   have hln : ((fsK m q ++ fsN (conK q) i).flatMap toldC).length = ((fsK m q).length + i) * 2 := by rw [flat_len (m := 2) (fun x _ => toldM x), List.length_append, fsN_len]
   refine xp_skip ?_
   refine xp_seq ?_
   refine xp_block ?_
   refine xp_region rfl ?_
   refine op_pure (pv_move (v := .slice _ _ _) rfl) ?_
   refine op_pure (pv_move (v := .int .i64 _) rfl) ?_
   refine op_pure (pv_move (v := .int .i64 _) rfl) ?_
   refine op_pure (pv_build (zc := [_, _]) (vs := [(0, .int .i64 _), (1, .int .i64 _)]) (cs := [_, _]) rfl rfl rfl rfl rfl rfl) ?_
   refine op_buildSlice (zc := [_, _]) (vs := [(0, .agg #[.int .i64 _, .int .i64 _])]) (cs := [_, _]) rfl rfl rfl rfl rfl rfl rfl fun b35 hb35 => ?_
   refine wp_norm [_, _, _, _] rfl ?_
   refine op_appendR 1 K2 rfl rfl rfl (fun V => rdP V (i := 3) rfl) rfl rfl rfl rfl rfl rfl rfl rfl rfl (by omega) rfl (by rw [hln]; simp; omega) fun a4 h3a E3a ha4 => ?_
   refine wp_norm [_, _, _, _] rfl ?_
   refine op_pure (pv_assign (v := .slice _ _ _) rfl) ?_
   refine xp_region rfl ?_
   refine op_pure (pv_move (v := .int .i64 _) rfl) ?_
   refine op_pure (pv_arith rfl (by omega)) ?_
   refine op_pure (pv_assign (v := .int .i64 _) rfl) ?_
   refine ⟨(i + 1, a4), ⟨rfl, rfl, trivial⟩, rfl, rfl, (Ext.trans E_i E3a), fun h3 E3 => ⟨hil, by rw [fsN_succ, ← List.append_assoc, List.flatMap_append, List.flatMap_cons, List.flatMap_nil, List.append_nil, toldK hql]; exact ha4⟩, by first | omega | (dsimp only; omega), ?_⟩
   repeat (first | exact off_base _ _ _ | refine off_upd (by decide) ?_ | refine off_updL rfl ?_ | refine off_mix rfl ?_)
  ·skip
   have hie : i = cntK m q := by have := geI hi; omega
   subst hie
   refine xp_exit ?_
   refine xp_region rfl ?_
   refine op_pure (pv_move (v := .int .i64 _) rfl) ?_
   refine op_pure (pv_arith rfl (by omega)) ?_
   refine op_pure (pv_assign (v := .int .i64 _) rfl) ?_
   refine ⟨(q + 1, a2), ⟨intE (by omega), rfl, trivial⟩, rfl, rfl, (Ext.trans E_q E_i), fun h3 E3 => ⟨hql, K2⟩, by first | omega | (dsimp only; omega), ?_⟩
   repeat (first | exact off_base _ _ _ | refine off_upd (by decide) ?_ | refine off_updL rfl ?_ | refine off_mix rfl ?_)
 ·skip
  have hqe : q = 4 := by have := of_decide_eq_false hq; omega
  subst hqe
  rw [fsK4] at J2
  refine xp_exit ?_
  refine xp_seq ?_
  refine xp_region rfl ?_
  refine op_pure (pv_move (v := .slice _ _ _) rfl) ?_
  refine op_pure (pv_assign (v := .slice _ _ _) rfl) ?_
  refine xp_ret ?_
  refine res_list (vs := [_]) Try.results95 ⟨resV_tmp rfl rfl, trivial⟩ fun V => ?_
  exact ⟨(Ext.trans E_q (ext_wl V)), AccP.row (i := 1) J2 (by omega) (fun x _ => toldM x) V rfl⟩
theorem FaultsR_ok (m : MachP) (M : MOK m) (AB AQ AL AW : Option Addr) (cB cQ cL cW : Nat) (h : AH) (RM : MachR h AB AQ AL AW m) :
  FnT Try.prog 48 #[machV AB AQ AL AW cB cQ cL cW m] h (fun v h' => ∃ L, v = .tuple #[L, .int .i64 0] ∧ SlR h' 2 toldC (faultsM m) L) := by
 refine call_body Try.func48 rfl Try.ntmps48 rfl ?_
 refine xp_seq ?_
 refine xp_region rfl ?_
 refine op_box (v := .agg #[.int .i64 _, .int .i64 _, .int .i64 _, .int .i64 _, .int .i64 _, .slice _ _ _, .slice _ _ _, .slice _ _ _, .slice _ _ _]) (cs := [_, _, _, _, _, _, _, _, _]) rfl rfl fun b1 hb1 => ?_
 refine wp_norm [_] rfl ?_
 refine op_pure (pv_assign (v := .slice _ _ _) rfl) ?_
 refine op_pure (pv_assign (v := .int .i64 _) rfl) ?_
 refine xp_seq ?_
 refine xp_seq ?_
 refine xp_region rfl ?_
 refine op_loadPA 0 (vs := [.int .i64 _, .int .i64 _, .int .i64 _, .int .i64 _, .int .i64 _, .slice _ _ _, .slice _ _ _, .slice _ _ _, .slice _ _ _]) rfl rfl rfl rfl rfl ?_
 refine op_fn (caps := []) (vs := [.agg #[.int .i64 _, .int .i64 _, .int .i64 _, .int .i64 _, .int .i64 _, .slice _ _ _, .slice _ _ _, .slice _ _ _, .slice _ _ _]]) rfl rfl rfl (CheckR_ok m M AB AQ AL AW cB cQ cL cW h (RM.ext (Ext.refl _))) ?_
 rintro _ h3 E3 rfl
 refine op_pure (pv_assign (v := .int .i64 _) rfl) ?_
 refine xp_seq ?_
 refine xp_region rfl ?_
 refine op_pure (pv_move (v := .int .i64 _) rfl) ?_
 refine op_pure (pv_of (v := .bool _) rfl) ?_
 refine xp_condF rfl (rfl) ?_
 refine xp_skip ?_
 refine xp_seq ?_
 refine xp_region rfl ?_
 refine op_loadPA 0 (vs := [.int .i64 _, .int .i64 _, .int .i64 _, .int .i64 _, .int .i64 _, .slice _ _ _, .slice _ _ _, .slice _ _ _, .slice _ _ _]) rfl rfl rfl rfl rfl ?_
 refine op_fn (caps := []) (vs := [.agg #[.int .i64 _, .int .i64 _, .int .i64 _, .int .i64 _, .int .i64 _, .slice _ _ _, .slice _ _ _, .slice _ _ _, .slice _ _ _]]) rfl rfl rfl (faultsR_ok m M AB AQ AL AW cB cQ cL cW h3) ?_
 rintro _ h4 E4 ⟨A4, c4, rfl, S4⟩
 refine op_pure (pv_assign (v := .slice _ _ _) rfl) ?_
 refine op_pure (pv_assign (v := .int .i64 _) rfl) ?_
 refine xp_ret ?_
 refine res_list (vs := [_, _]) Try.results48 ⟨resV_tmp rfl rfl, resV_tmp rfl rfl, trivial⟩ fun V => ?_
 exact ⟨(Ext.trans (Ext.trans E3 E4) (ext_wl V)), _, rfl, A4, c4, rfl, S4.ext (ext_wl V)⟩
end
end Go.Proofs.Ythphpbdmbmiaiaa
/- Plain: a machine without pins and links sounds like one in which they lift and turn nothing. Conditions: none. -/
namespace Go.Rd
open Go Go.HL Go.Wx
variable [Lvl]
/-- m' is m without some pins and links that do nothing. -/
structure Mut (m m' : MachP) : Prop where
 lv : m'.levers = m.levers
 op : m'.opn = m.opn
 tv : m'.travel = m.travel
 bt : m'.buttons = m.buttons
 p1 : ∀ p ∈ m'.pins, p ∈ m.pins
 p2 : ∀ p ∈ m.pins, p.lag = m.travel ∨ p ∈ m'.pins
 l1 : ∀ l ∈ m'.links, l ∈ m.links
 l2 : ∀ l ∈ m.links, l.lag = m.travel ∨ l ∈ m'.links
theorem mut_turn {m m' : MachP} {a : HandP} (X : Mut m m') (F : Fit m a) (F' : Fit m' a) (td : 0 ≤ m.travel) {r : Int} (hr : 0 ≤ r) : turnF m' a m.travel r = turnF m a m.travel r := by
 have c := turned_clo F td
 have c' := turned_clo F' td
 refine Int.le_antisymm ?_ ?_
 ·exact turned_least F' (f := turnF m a m.travel) ⟨c.zero, fun b hb => by rw [X.bt]; exact c.press b hb, fun l hl ha => c.link l (X.l1 l hl) ha⟩ r hr
 ·refine turned_least F (f := turnF m' a m.travel) ⟨c'.zero, fun b hb => by rw [← X.bt]; exact c'.press b hb, fun l hl ha => ?_⟩ r hr
  rcases X.l2 l hl with e | h
  ·have h1 := (turnF_bd F' td l.frm).2
   have h2 := (turnF_bd F' td l.to).1
   rw [e]
   omega
  ·exact c'.link l h ha
theorem mut_lift {m m' : MachP} {a : HandP} (X : Mut m m') (F : Fit m a) (F' : Fit m' a) (td : 0 ≤ m.travel) (hp : ∀ p ∈ m.pins, 0 ≤ p.rod ∧ 0 ≤ p.lever) {v : Int} (h0 : 0 ≤ v) (hv : v < m.levers) : liftF m' a m.travel v = liftF m a m.travel v := by
 have i1 := liftF_iff m a m.travel h0 hv (fun p h => (hp p h).2)
 have i2 := liftF_iff m' a m.travel h0 (by rw [X.lv]; exact hv) (fun p h => (hp p (X.p1 p h)).2)
 refine Int.le_antisymm ?_ ?_
 ·have k := (i1 (liftF m a m.travel v)).1 (Int.le_refl _)
  refine (i2 _).2 ⟨k.1, fun p h e => ?_⟩
  rw [mut_turn X F F' td (hp p (X.p1 p h)).1]
  exact k.2 p (X.p1 p h) e
 ·have k := (i2 (liftF m' a m.travel v)).1 (Int.le_refl _)
  refine (i1 _).2 ⟨k.1, fun p h e => ?_⟩
  rcases X.p2 p h with e2 | h2
  ·have h1 := (turnF_bd F td p.rod).2
   rw [e2]
   omega
  ·rw [← mut_turn X F F' td (hp p h).1]
   exact k.2 p h2 e
theorem mut_sounds {m m' : MachP} {a : HandP} (X : Mut m m') (F : Fit m a) (F' : Fit m' a) (td : 0 ≤ m.travel) (hp : ∀ p ∈ m.pins, 0 ≤ p.rod ∧ 0 ≤ p.lever) : soundsM m' a m.travel = soundsM m a m.travel := by
 apply Nat.eq_of_testBit_eq
 intro i
 unfold soundsM
 rw [maskOf_bit, maskOf_bit, X.lv]
 by_cases hi : i < m.levers.toNat
 ·have e := mut_lift X F F' td hp (v := (i : Int)) (by omega) (by omega)
  unfold liftF at e
  rw [Int.toNat_natCast] at e
  rw [e, X.op]
 ·simp [hi]
/-- A list without the things at some places. -/
def keepF {α : Type} (I : Nat → Bool) : Nat → List α → List α
 | _, [] => []
 | k, x :: xs => if I k then keepF I (k + 1) xs else x :: keepF I (k + 1) xs
theorem keepF_congr {α : Type} {I J : Nat → Bool} : ∀ {k : Nat} {xs : List α}, (∀ j, k ≤ j → I j = J j) → keepF I k xs = keepF J k xs
 | _, [], _ => rfl
 | k, x :: xs, h => by
  rw [keepF, keepF, h k (Nat.le_refl _), keepF_congr (k := k + 1) (xs := xs) fun j hj => h j (by omega)]
theorem keepF_erase {α : Type} {I : Nat → Bool} : ∀ (i k : Nat) (xs : List α), (∀ j, k ≤ j → j ≤ k + i → I j = false) → (keepF I k xs).eraseIdx i = keepF (fun j => j == k + i || I j) k xs
 | _, _, [], _ => by simp [keepF]
 | 0, k, x :: xs, h => by
  rw [keepF, keepF, h k (Nat.le_refl _) (by omega)]
  simp only [Nat.add_zero, BEq.rfl, Bool.true_or, if_true, Bool.false_eq_true, if_false]
  rw [List.eraseIdx_cons_zero]
  exact keepF_congr fun j hj => by
   have : (j == k) = false := by simp; omega
   rw [this, Bool.false_or]
 | i + 1, k, x :: xs, h => by
  have e : (k == k + (i + 1)) = false := by simp
  rw [keepF, keepF, h k (Nat.le_refl _) (by omega), e]
  simp only [Bool.false_or, Bool.false_eq_true, if_false]
  rw [List.eraseIdx_cons_succ, keepF_erase i (k + 1) xs (fun j h1 h2 => h j (by omega) (by omega)), show k + 1 + i = k + (i + 1) by omega]
theorem keepF_mem {α : Type} {I : Nat → Bool} {p : α} : ∀ {k : Nat} {xs : List α}, p ∈ keepF I k xs ↔ ∃ j, xs[j]? = some p ∧ I (k + j) = false
 | _, [] => by simp [keepF]
 | k, x :: xs => by
  have ih := keepF_mem (I := I) (p := p) (k := k + 1) (xs := xs)
  rw [keepF]
  constructor
  ·intro h
   by_cases hI : I k = true
   ·rw [if_pos hI, ih] at h
    obtain ⟨j, h1, h2⟩ := h
    exact ⟨j + 1, by simpa using h1, by rw [← h2]; congr 1; omega⟩
   ·rw [if_neg hI, List.mem_cons] at h
    rcases h with rfl | h
    ·exact ⟨0, rfl, by simpa using hI⟩
    ·obtain ⟨j, h1, h2⟩ := ih.1 h
     exact ⟨j + 1, by simpa using h1, by rw [← h2]; congr 1; omega⟩
  ·rintro ⟨j, h1, h2⟩
   cases j with
   | zero =>
    have e : x = p := by simpa using h1
    rw [if_neg (by rw [show k = k + 0 from rfl, h2]; decide)]
    exact List.mem_cons.2 (.inl e.symm)
   | succ j =>
    have hm : p ∈ keepF I (k + 1) xs := ih.2 ⟨j, by simpa using h1, by rw [← h2]; congr 1; omega⟩
    by_cases hI : I k = true
    ·rw [if_pos hI]; exact hm
    ·rw [if_neg hI]; exact List.mem_cons.2 (.inr hm)
def isPin (j : Nat) : FaultP → Bool
 | .pin i => j == i
 | _ => false
def isLink (j : Nat) : FaultP → Bool
 | .link i => j == i
 | _ => false
def rmF (o : MachP) : FaultP → MachP
 | .pin i => { o with pins := o.pins.eraseIdx i }
 | .link i => { o with links := o.links.eraseIdx i }
 | _ => o
/-- The machine without the pins and links of some faults, the last one first. -/
def ownR (m : MachP) (fs : List FaultP) : MachP := fs.foldr (fun f o => rmF o f) m
/-- Pins, and links, come in order. -/
def AscF (f g : FaultP) : Prop := (∀ i j, f = .pin i → g = .pin j → i < j) ∧ (∀ i j, f = .link i → g = .link j → i < j)
theorem own_pins (m : MachP) : ∀ {fs : List FaultP}, fs.Pairwise AscF → (ownR m fs).pins = keepF (fun j => fs.any (isPin j)) 0 m.pins ∧ (ownR m fs).links = keepF (fun j => fs.any (isLink j)) 0 m.links
 | [], _ => by
  have key : ∀ {α : Type} (k : Nat) (xs : List α), keepF (fun _ => false) k xs = xs := by
   intro α k xs
   induction xs generalizing k with
   | nil => rfl
   | cons x xs ih => rw [keepF, ih]; rfl
  exact ⟨(key 0 m.pins).symm, (key 0 m.links).symm⟩
 | f :: fs, h => by
  rw [List.pairwise_cons] at h
  obtain ⟨e1, e2⟩ := own_pins m h.2
  have eo : ownR m (f :: fs) = rmF (ownR m fs) f := rfl
  rw [eo]
  cases f with
  | shut i => exact ⟨by simpa [rmF, isPin] using e1, by simpa [rmF, isLink] using e2⟩
  | opn i => exact ⟨by simpa [rmF, isPin] using e1, by simpa [rmF, isLink] using e2⟩
  | pin i =>
   refine ⟨?_, by simpa [rmF, isLink] using e2⟩
   show (ownR m fs).pins.eraseIdx i = _
   rw [e1, keepF_erase i 0 m.pins (fun j _ hj => by
    rw [List.any_eq_false]
    intro g hg hgp
    cases g with
    | pin q =>
     have e : j = q := by simpa [isPin] using hgp
     have := (h.1 _ hg).1 i q rfl rfl
     omega
    | _ => simp [isPin] at hgp)]
   simp [isPin]
  | link i =>
   refine ⟨by simpa [rmF, isPin] using e1, ?_⟩
   show (ownR m fs).links.eraseIdx i = _
   rw [e2, keepF_erase i 0 m.links (fun j _ hj => by
    rw [List.any_eq_false]
    intro g hg hgp
    cases g with
    | link q =>
     have e : j = q := by simpa [isLink] using hgp
     have := (h.1 _ hg).2 i q rfl rfl
     omega
    | _ => simp [isLink] at hgp)]
   simp [isLink]
theorem own_same (m : MachP) : ∀ fs : List FaultP, (ownR m fs).rods = m.rods ∧ (ownR m fs).levers = m.levers ∧ (ownR m fs).regs = m.regs ∧ (ownR m fs).travel = m.travel ∧ (ownR m fs).opn = m.opn ∧ (ownR m fs).buttons = m.buttons ∧ (ownR m fs).weights = m.weights
 | [] => ⟨rfl, rfl, rfl, rfl, rfl, rfl, rfl⟩
 | f :: fs => by
  have ih := own_same m fs
  have eo : ownR m (f :: fs) = rmF (ownR m fs) f := rfl
  rw [eo]
  cases f <;> exact ih
theorem lagP_get (ps : List PinP) (i : Nat) (t : Int) (j : Nat) : (lagP ps i t)[j]? = (ps[j]?).map fun p => if j == i then ⟨p.rod, p.lever, t⟩ else p := by
 unfold lagP
 split
 ·rename_i p hp
  rw [List.getElem?_set]
  by_cases h : i = j
  ·subst h
   have hl := (List.getElem?_eq_some_iff.1 hp).1
   rw [if_pos rfl, if_pos hl, hp]
   simp
  ·have h' : (j == i) = false := by simp; omega
   rw [if_neg h, h']
   simp
 ·rename_i hp
  by_cases h : j = i
  ·subst h; rw [hp]; rfl
  ·have h' : (j == i) = false := by simp; omega
   rw [h']
   simp
theorem lagL_get (ls : List LinkP) (i : Nat) (t : Int) (j : Nat) : (lagL ls i t)[j]? = (ls[j]?).map fun x => if j == i then ⟨x.frm, x.to, x.reg, t⟩ else x := by
 unfold lagL
 split
 ·rename_i p hp
  rw [List.getElem?_set]
  by_cases h : i = j
  ·subst h
   have hl := (List.getElem?_eq_some_iff.1 hp).1
   rw [if_pos rfl, if_pos hl, hp]
   simp
  ·have h' : (j == i) = false := by simp; omega
   rw [if_neg h, h']
   simp
 ·rename_i hp
  by_cases h : j = i
  ·subst h; rw [hp]; rfl
  ·have h' : (j == i) = false := by simp; omega
   rw [h']
   simp
theorem brk_get {t : Int} : ∀ (fs : List FaultP) (b : BrkP) (j : Nat), (fs.foldl (brkS t) b).pins[j]? = (b.pins[j]?).map (fun p => if fs.any (isPin j) then ⟨p.rod, p.lever, t⟩ else p) ∧ (fs.foldl (brkS t) b).links[j]? = (b.links[j]?).map (fun x => if fs.any (isLink j) then ⟨x.frm, x.to, x.reg, t⟩ else x)
 | [], b, j => by simp
 | f :: fs, b, j => by
  obtain ⟨e1, e2⟩ := brk_get (t := t) fs (brkS t b f) j
  rw [List.foldl_cons, e1, e2]
  cases f with
  | shut i => simp [brkS, isPin, isLink]
  | opn i => simp [brkS, isPin, isLink]
  | pin i =>
   refine ⟨?_, by simp [brkS, isLink]⟩
   show ((lagP b.pins i t)[j]?).map _ = _
   rw [lagP_get, Option.map_map]
   congr 1
   funext p
   simp only [Function.comp, List.any_cons, isPin]
   by_cases h : j = i
   ·subst h; simp
   ·simp [h]
  | link i =>
   refine ⟨by simp [brkS, isPin], ?_⟩
   show ((lagL b.links i t)[j]?).map _ = _
   rw [lagL_get, Option.map_map]
   congr 1
   funext p
   simp only [Function.comp, List.any_cons, isLink]
   by_cases h : j = i
   ·subst h; simp
   ·simp [h]
theorem own_mut {m : MachP} {fs : List FaultP} (h : fs.Pairwise AscF) : Mut (brkM m fs) (ownR m fs) := by
 obtain ⟨e1, e2⟩ := own_pins m h
 obtain ⟨_, s2, _, s4, s5, s6, _⟩ := own_same m fs
 have g := fun j => brk_get (t := m.travel) fs ⟨m.pins, m.links, 0, 0⟩ j
 refine ⟨s2, s5, s4, s6, fun p hp => ?_, fun p hp => ?_, fun l hl => ?_, fun l hl => ?_⟩
 ·rw [e1, keepF_mem] at hp
  obtain ⟨j, h1, h2⟩ := hp
  rw [Nat.zero_add] at h2
  refine List.mem_of_getElem? (i := j) ?_
  refine ((g j).1).trans ?_
  show (m.pins[j]?).map _ = _
  rw [h1, h2]; rfl
 ·obtain ⟨j, hj⟩ := List.getElem?_of_mem hp
  have e := ((g j).1).symm.trans hj
  rw [show (⟨m.pins, m.links, 0, 0⟩ : BrkP).pins = m.pins from rfl] at e
  rw [Option.map_eq_some_iff] at e
  obtain ⟨q, h1, h2⟩ := e
  by_cases hI : fs.any (isPin j) = true
  ·rw [if_pos hI] at h2; subst h2; exact .inl rfl
  ·rw [if_neg hI] at h2; subst h2
   exact .inr (by rw [e1, keepF_mem]; exact ⟨j, h1, by rw [Nat.zero_add]; simpa using hI⟩)
 ·rw [e2, keepF_mem] at hl
  obtain ⟨j, h1, h2⟩ := hl
  rw [Nat.zero_add] at h2
  refine List.mem_of_getElem? (i := j) ?_
  refine ((g j).2).trans ?_
  show (m.links[j]?).map _ = _
  rw [h1, h2]; rfl
 ·obtain ⟨j, hj⟩ := List.getElem?_of_mem hl
  have e := ((g j).2).symm.trans hj
  rw [show (⟨m.pins, m.links, 0, 0⟩ : BrkP).links = m.links from rfl] at e
  rw [Option.map_eq_some_iff] at e
  obtain ⟨q, h1, h2⟩ := e
  by_cases hI : fs.any (isLink j) = true
  ·rw [if_pos hI] at h2; subst h2; exact .inl rfl
  ·rw [if_neg hI] at h2; subst h2
   exact .inr (by rw [e2, keepF_mem]; exact ⟨j, h1, by rw [Nat.zero_add]; simpa using hI⟩)
theorem own_mem {m : MachP} {fs : List FaultP} : (∀ p ∈ (ownR m fs).pins, p ∈ m.pins) ∧ (∀ l ∈ (ownR m fs).links, l ∈ m.links) ∧ (ownR m fs).pins.length ≤ m.pins.length ∧ (ownR m fs).links.length ≤ m.links.length := by
 induction fs with
 | nil => exact ⟨fun _ h => h, fun _ h => h, Nat.le_refl _, Nat.le_refl _⟩
 | cons f fs ih =>
  have eo : ownR m (f :: fs) = rmF (ownR m fs) f := rfl
  rw [eo]
  obtain ⟨i1, i2, i3, i4⟩ := ih
  cases f with
  | shut i => exact ⟨i1, i2, i3, i4⟩
  | opn i => exact ⟨i1, i2, i3, i4⟩
  | pin i => exact ⟨fun p h => i1 p (List.mem_of_mem_eraseIdx h), i2, Nat.le_trans (List.length_eraseIdx_le _ _) i3, i4⟩
  | link i => exact ⟨i1, fun p h => i2 p (List.mem_of_mem_eraseIdx h), i3, Nat.le_trans (List.length_eraseIdx_le _ _) i4⟩
theorem own_mok {m : MachP} (M : MOK m) (fs : List FaultP) : MOK (ownR m fs) := by
 obtain ⟨s1, s2, s3, s4, s5, s6, s7⟩ := own_same m fs
 obtain ⟨i1, i2, i3, i4⟩ := own_mem (m := m) (fs := fs)
 refine ⟨by rw [s1]; exact M.rods, by rw [s2]; exact M.levers, by rw [s3]; exact M.regs, by rw [s4]; exact M.travel, by rw [s5, s4]; exact M.opn, by rw [s6]; exact M.bl, by rw [s6, s1]; exact M.btn, Nat.le_trans i3 M.pl, ?_, Nat.le_trans i4 M.ll, ?_, by rw [s7, s2]; exact M.wl, by rw [s7]; exact M.wt⟩
 ·intro p hp; rw [s1, s2, s4]; exact M.pin p (i1 p hp)
 ·intro l hl; rw [s1, s3, s4]; exact M.link l (i2 l hl)
theorem own_hok {m : MachP} {a : HandP} (H : HOK m a) (fs : List FaultP) : HOK (ownR m fs) a := by
 obtain ⟨_, _, s3, _, _, s6, _⟩ := own_same m fs
 exact ⟨by rw [s6]; exact H.b, by rw [s3]; exact H.o⟩
theorem own_sounds {m : MachP} {a : HandP} (M : MOK m) (H : HOK m a) {fs : List FaultP} (h : fs.Pairwise AscF) : soundsM (ownR m fs) a m.travel = soundsM (brkM m fs) a m.travel := by
 have tr := M.travel
 have M2 := brk_mok M fs
 refine mut_sounds (m := brkM m fs) (own_mut h) (fit_of M2 (brk_hok H fs)) (fit_of (own_mok M fs) (own_hok H fs)) (by show 0 ≤ m.travel; omega) fun p hp => ?_
 have := M2.pin p hp
 exact ⟨this.1.1, this.2.1.1⟩
theorem keepF_lt {α : Type} {I : Nat → Bool} : ∀ (i k : Nat) (xs : List α), i < xs.length → (∀ j, k ≤ j → j ≤ k + i → I j = false) → i < (keepF I k xs).length
 | _, _, [], h, _ => by simp at h
 | 0, k, x :: xs, _, h => by
  rw [keepF, h k (Nat.le_refl _) (by omega)]
  simp
 | i + 1, k, x :: xs, hl, h => by
  have ih := keepF_lt i (k + 1) xs (by simpa using hl) (fun j h1 h2 => h j (by omega) (by omega))
  rw [keepF, h k (Nat.le_refl _) (by omega)]
  simpa using ih
theorem own_pin_lt {m : MachP} {fs : List FaultP} {i : Nat} (h : (FaultP.pin i :: fs).Pairwise AscF) (hi : i < m.pins.length) : i < (ownR m fs).pins.length := by
 rw [List.pairwise_cons] at h
 rw [(own_pins m h.2).1]
 refine keepF_lt i 0 m.pins hi fun j _ hj => ?_
 rw [List.any_eq_false]
 intro g hg hgp
 cases g with
 | pin q =>
  have e : j = q := by simpa [isPin] using hgp
  have := (h.1 _ hg).1 i q rfl rfl
  omega
 | _ => simp [isPin] at hgp
theorem own_link_lt {m : MachP} {fs : List FaultP} {i : Nat} (h : (FaultP.link i :: fs).Pairwise AscF) (hi : i < m.links.length) : i < (ownR m fs).links.length := by
 rw [List.pairwise_cons] at h
 rw [(own_pins m h.2).2]
 refine keepF_lt i 0 m.links hi fun j _ hj => ?_
 rw [List.any_eq_false]
 intro g hg hgp
 cases g with
 | link q =>
  have e : j = q := by simpa [isLink] using hgp
  have := (h.1 _ hg).2 i q rfl rfl
  omega
 | _ => simp [isLink] at hgp
/-- The machine without the last k of some faults' pins and links. -/
def ownK (m : MachP) (fs : List FaultP) (k : Nat) : MachP := ownR m (fs.drop (fs.length - k))
theorem ownK_zero (m : MachP) (fs : List FaultP) : ownK m fs 0 = m := by
 unfold ownK
 rw [Nat.sub_zero, List.drop_length]
 rfl
theorem drop_at {fs : List FaultP} {k : Nat} (hk : k < fs.length) : fs.drop (fs.length - (k + 1)) = fs[fs.length - 1 - k]'(by omega) :: fs.drop (fs.length - k) := by
 rw [List.drop_eq_getElem_cons (show fs.length - (k + 1) < fs.length by omega)]
 have e : fs.length - (k + 1) = fs.length - 1 - k := by omega
 congr 1
 ·congr 1
 ·congr 1; omega
theorem ownK_succ {m : MachP} {fs : List FaultP} {k : Nat} (hk : k < fs.length) : ownK m fs (k + 1) = rmF (ownK m fs k) (fs[fs.length - 1 - k]'(by omega)) := by
 unfold ownK
 rw [drop_at hk]
 rfl
theorem ownK_all (m : MachP) (fs : List FaultP) : ownK m fs fs.length = ownR m fs := by
 unfold ownK
 rw [Nat.sub_self]
 rfl
theorem asc_drop {fs : List FaultP} (h : fs.Pairwise AscF) (k : Nat) : (fs.drop k).Pairwise AscF := h.sublist (List.drop_sublist k fs)
/-- A bit more, a bit less. -/
theorem with_list {x i : Nat} (hi : i < 6) (hb : x.testBit i = false) : ((listN x 6).filter fun z => decide (z < (i : Int))) ++ [(i : Int)] ++ (listN x 6).filter (fun z => decide (z > (i : Int))) = listN (x ||| 2 ^ i) 6 := by
 refine asc_ext ?_ (listN_asc _ _) fun z => ?_
 ·rw [List.append_assoc, List.pairwise_append, List.pairwise_append]
  refine ⟨(listN_asc x 6).sublist List.filter_sublist, ⟨by simp, (listN_asc x 6).sublist List.filter_sublist, fun a ha b hb => ?_⟩, fun a ha b hb => ?_⟩
  ·simp at ha hb; omega
  ·rw [List.mem_filter] at ha
   have h1 := of_decide_eq_true ha.2
   rcases List.mem_append.1 hb with hb | hb
   ·simp at hb; omega
   ·rw [List.mem_filter] at hb
    have h2 := of_decide_eq_true hb.2
    omega
 ·rw [List.mem_append, List.mem_append, List.mem_filter, List.mem_filter, List.mem_singleton, listN_bits, listN_bits]
  constructor
  ·rintro ((⟨⟨j, rfl, h1, h2⟩, h3⟩ | rfl) | ⟨⟨j, rfl, h1, h2⟩, h3⟩)
   ·exact ⟨j, rfl, h1, by rw [Nat.testBit_or, h2]; rfl⟩
   ·exact ⟨i, rfl, hi, by rw [Nat.testBit_or, Nat.testBit_two_pow_self]; simp⟩
   ·exact ⟨j, rfl, h1, by rw [Nat.testBit_or, h2]; rfl⟩
  ·rintro ⟨j, rfl, h1, h2⟩
   rw [Nat.testBit_or] at h2
   by_cases e : j = i
   ·exact .inl (.inr (by rw [e]))
   ·rw [Nat.testBit_two_pow_of_ne (fun h => e h.symm), Bool.or_false] at h2
    rcases Nat.lt_or_gt_of_ne e with h | h
    ·exact .inl (.inl ⟨⟨j, rfl, h1, h2⟩, decide_eq_true (by omega)⟩)
    ·exact .inr ⟨⟨j, rfl, h1, h2⟩, decide_eq_true (by omega)⟩
theorem with_had {x i : Nat} (hb : x.testBit i = true) : x ||| 2 ^ i = x := by
 apply Nat.eq_of_testBit_eq
 intro j
 rw [Nat.testBit_or]
 by_cases e : j = i
 ·subst e; rw [hb]; rfl
 ·rw [Nat.testBit_two_pow_of_ne (fun h => e h.symm), Bool.or_false]
theorem has_bit {x i : Nat} (hi : i < 6) : (listN x 6).contains (i : Int) = x.testBit i := by
 rw [Bool.eq_iff_iff, List.contains_iff_mem, listN_bits]
 constructor
 ·rintro ⟨j, e, _, h⟩
  have : i = j := by omega
  rw [this]; exact h
 ·exact fun h => ⟨i, rfl, hi, h⟩
theorem mask_bit {d j : Nat} (hd : d < 2 ^ 64) : (2 ^ 64 - 1 - d).testBit j = (decide (j < 64) && !d.testBit j) := by
 rw [show 2 ^ 64 - 1 - d = 2 ^ 64 - (d + 1) by omega, Nat.testBit_two_pow_sub_succ hd]
theorem without_list {x d i : Nat} (hd : d < 2 ^ 6) (hi : i < 6) : (listN (x &&& (2 ^ 64 - 1 - d)) 6).filter (fun z => z != (i : Int)) = listN (x &&& (2 ^ 64 - 1 - (d ||| 2 ^ i))) 6 := by
 have d64 : d < 2 ^ 64 := by omega
 have h2 : 2 ^ i < 2 ^ 6 := Nat.pow_lt_pow_right (by omega) hi
 have d65 : d ||| 2 ^ i < 2 ^ 64 := by have := Nat.or_lt_two_pow hd h2; omega
 refine asc_ext ((listN_asc _ 6).sublist List.filter_sublist) (listN_asc _ _) fun z => ?_
 rw [List.mem_filter, listN_bits, listN_bits]
 constructor
 ·rintro ⟨⟨j, rfl, h1, h2⟩, h3⟩
  have hne : j ≠ i := fun e => by subst e; simp at h3
  refine ⟨j, rfl, h1, ?_⟩
  rw [Nat.testBit_and, mask_bit d64] at h2
  rw [Nat.testBit_and, mask_bit d65, Nat.testBit_or, Nat.testBit_two_pow_of_ne (fun h => hne h.symm), Bool.or_false]
  exact h2
 ·rintro ⟨j, rfl, h1, h2⟩
  rw [Nat.testBit_and, mask_bit d65, Nat.testBit_or] at h2
  by_cases e : j = i
  ·subst e
   rw [Nat.testBit_two_pow_self] at h2
   simp at h2
  ·rw [Nat.testBit_two_pow_of_ne (fun h => e h.symm), Bool.or_false] at h2
   exact ⟨⟨j, rfl, h1, by rw [Nat.testBit_and, mask_bit d64]; exact h2⟩, by simp; omega⟩
end Go.Rd
/- Walks of the reference: what sounds with faults. Conditions: as each theorem states. -/
namespace Go.Proofs.Ythphpbdmbmiaiaa
open Go Go.HL Go.Proofs Go.Wx Go.Rd
section
variable [Lvl]
set_option maxRecDepth 100000
theorem fsN_get {c : Nat → FaultP} {k j : Nat} {f : FaultP} (h : (fsN c k)[j]? = some f) : j < k ∧ f = c j := by
 unfold fsN at h
 rw [List.getElem?_map] at h
 by_cases hj : j < k
 ·rw [List.getElem?_range hj] at h
  simp at h
  exact ⟨hj, h.symm⟩
 ·rw [List.getElem?_eq_none (by simp; omega)] at h
  simp at h
theorem fault_ix {m : MachP} {x : Nat} {f : FaultP} (h : (faultsM m)[x]? = some f) : (∃ i, f = .shut i) ∨ (∃ i, f = .opn i) ∨ (∃ i, f = .pin i ∧ x = 2 * m.levers.toNat + i) ∨ (∃ i, f = .link i ∧ x = 2 * m.levers.toNat + m.pins.length + i) := by
 have l1 : (fs1 m).length = m.levers.toNat := by rw [fs1, fsN_len]
 have l2 : (fs2 m).length = 2 * m.levers.toNat := by rw [fs2, List.length_append, l1, fsN_len]; omega
 have l3 : (fs3 m).length = 2 * m.levers.toNat + m.pins.length := by rw [fs3, List.length_append, l2, fsN_len]
 rw [faultsM, List.getElem?_append] at h
 split at h
 ·rw [fs3, List.getElem?_append] at h
  split at h
  ·rw [fs2, List.getElem?_append] at h
   split at h
   ·exact .inl ⟨x, (fsN_get h).2⟩
   ·exact .inr (.inl ⟨_, (fsN_get h).2⟩)
  ·exact .inr (.inr (.inl ⟨_, (fsN_get h).2, by omega⟩))
 ·exact .inr (.inr (.inr ⟨_, (fsN_get h).2, by omega⟩))
theorem pick_asc {m : MachP} {l : List Int} (S : SetOK l (faultsM m).length) : (pickL m l).Pairwise AscF := by
 unfold pickL
 rw [List.pairwise_map]
 refine S.asc.imp_of_mem fun {a b} ha hb hab => ?_
 obtain ⟨a0, a1⟩ := S.mem a ha
 obtain ⟨b0, b1⟩ := S.mem b hb
 have ea : (faultsM m)[a.toNat]? = some ((faultsM m).getD a.toNat (.shut 0)) := by rw [List.getD_eq_getElem?_getD, List.getElem?_eq_getElem (by omega)]; rfl
 have eb : (faultsM m)[b.toNat]? = some ((faultsM m).getD b.toNat (.shut 0)) := by rw [List.getD_eq_getElem?_getD, List.getElem?_eq_getElem (by omega)]; rfl
 generalize (faultsM m).getD a.toNat (.shut 0) = f at ea ⊢
 generalize (faultsM m).getD b.toNat (.shut 0) = g at eb ⊢
 have fa := fault_ix ea
 have fb := fault_ix eb
 refine ⟨fun i j e1 e2 => ?_, fun i j e1 e2 => ?_⟩
 ·subst e1 e2
  simp at fa fb
  omega
 ·subst e1 e2
  simp at fa fb
  omega
theorem pick_at {m : MachP} {l : List Int} (S : SetOK l (faultsM m).length) {k : Nat} (hk : k < l.length) (hp : k < (pickL m l).length) : ∃ h : l[k].toNat < (faultsM m).length, (pickL m l)[k] = (faultsM m)[l[k].toNat] := by
 obtain ⟨a0, a1⟩ := S.mem _ (List.getElem_mem hk)
 have h : l[k].toNat < (faultsM m).length := by omega
 exact ⟨h, by simp [pickL, List.getD_eq_getElem?_getD, List.getElem?_eq_getElem h]⟩
theorem slcE {A : Option Addr} {n n' c : Nat} (e : n = n') : Value.slice A n c = Value.slice A n' c := by rw [e]
theorem lenE {x y : Nat} (e : x = y) : (listN x 6).length = (listN y 6).length := by rw [e]
theorem rowE {h : AH} {A : Option Addr} {x y : Nat} (e : x = y) (R : Row h 1 intC A (listN x 6)) : Row h 1 intC A (listN y 6) := e ▸ R
set_option maxHeartbeats 8000000 in
theorem brokenR_ok (m : MachP) (M : MOK m) (l : List Int) (S : SetOK l (faultsM m).length) (a : HandP) (H : HOK m a) (AB AQ AL AW NA HA OA : Option Addr) (cB cQ cL cW cN cH cO : Nat) (hcQ : m.pins.length ≤ cQ) (hcL : m.links.length ≤ cL) (h : AH) (RM : MachR h AB AQ AL AW m) (RN : Row h 1 intC NA l) (RH : HandR h HA OA a) :
  FnT Try.prog 107 #[machV AB AQ AL AW cB cQ cL cW m, .slice NA l.length cN, handV HA OA cH cO a] h (fun v h' => SlR h' 1 intC (listN (soundsB m (pickL m l) a) 6) v) := by
 have mlv := M.levers
 have mpl := M.pl
 have mll := M.ll
 have mtr := M.travel
 have fln := faults_len m
 have hll : l.length ≤ (faultsM m).length := set_len S
 obtain ⟨fs, hfs⟩ : ∃ fs, fs = pickL m l := ⟨_, rfl⟩
 have hfl : fs.length = l.length := by rw [hfs, pickL, List.length_map]
 have hfo : ∀ f ∈ fs, FOK m f := by rw [hfs]; exact pickL_fok M S.mem
 have hfa : fs.Pairwise AscF := by rw [hfs]; exact pick_asc S
 have hfx : ∀ k (hk : k < l.length) (hp : k < fs.length), ∃ hx : l[k].toNat < (faultsM m).length, fs[k] = (faultsM m)[l[k].toNat] := fun k hk hp => by subst hfs; exact pick_at S hk hp
 have hls : ∀ x ∈ l, 0 ≤ x := fun x hx => (S.mem x hx).1
 rw [← hfs]
 refine call_body Try.func107 rfl Try.ntmps107 rfl ?_
 refine xp_seq ?_
 refine xp_region rfl ?_
 refine op_box (v := .agg #[.int .i64 _, .int .i64 _, .int .i64 _, .int .i64 _, .int .i64 _, .slice _ _ _, .slice _ _ _, .slice _ _ _, .slice _ _ _]) (cs := [_, _, _, _, _, _, _, _, _]) rfl rfl fun b3 hb3 => ?_
 refine wp_norm [_] rfl ?_
 refine op_box (v := .agg #[.slice _ _ _, .slice _ _ _]) (cs := [_, _]) rfl rfl fun b5 hb5 => ?_
 refine wp_norm [_, _] rfl ?_
 refine op_pure (pv_assign (v := .slice _ _ _) rfl) ?_
 refine xp_seq ?_
 refine xp_region rfl ?_
 refine op_loadPA 0 (vs := [.int .i64 _, .int .i64 _, .int .i64 _, .int .i64 _, .int .i64 _, .slice _ _ _, .slice _ _ _, .slice _ _ _, .slice _ _ _]) rfl rfl rfl rfl rfl ?_
 refine op_fn (caps := []) (vs := [.agg #[.int .i64 _, .int .i64 _, .int .i64 _, .int .i64 _, .int .i64 _, .slice _ _ _, .slice _ _ _, .slice _ _ _, .slice _ _ _]]) rfl rfl rfl (faultsR_ok m M AB AQ AL AW cB cQ cL cW h) ?_
 rintro _ h1 E1 ⟨FA, cF, rfl, RF⟩
 refine op_pure (pv_assign (v := .slice _ _ _) rfl) ?_
 refine xp_seq ?_
 refine xp_region rfl ?_
 refine op_loadPA 0 (vs := [.int .i64 _, .int .i64 _, .int .i64 _, .int .i64 _, .int .i64 _, .slice _ _ _, .slice _ _ _, .slice _ _ _, .slice _ _ _]) rfl rfl rfl rfl rfl ?_
 refine op_alloc (cs := [_, _, _, _, _, _, _, _, _]) rfl rfl fun b8 hb8 => ?_
 refine wp_norm [_, _, _] rfl ?_
 refine op_storeP 2 (v := .agg #[.int .i64 _, .int .i64 _, .int .i64 _, .int .i64 _, .int .i64 _, .slice _ _ _, .slice _ _ _, .slice _ _ _, .slice _ _ _]) (vs := [_, _, _, _, _, _, _, _, _]) (c' := [_, _, _, _, _, _, _, _, _]) rfl rfl rfl rfl rfl rfl rfl rfl rfl ?_
 refine wp_norm [_, _, _] rfl ?_
 refine xp_seq ?_
 refine xp_seq ?_
 refine xp_region rfl ?_
 refine op_pure (pv_move (v := .slice _ _ _) rfl) ?_
 refine op_pure (pv_len rfl rfl) ?_
 refine op_pure (pv_arith rfl (by omega)) ?_
 refine op_pure (pv_assign (v := .int .i64 _) rfl) ?_
 refine xp_block ?_
 refine xp_loopL [9, 10, 22, 23, 24, 25, 26, 27, 28, 29, 30, 31, 32, 33, 34, 35, 36, 37, 38, 39, 40, 41, 42, 43, 44, 45, 46] 3 (α := Nat × MachP × Option Addr × Nat × Option Addr × Nat) (fun ⟨k, o, AQ1, cQ1, AL1, cL1⟩ => [(9, .int .i64 ((l.length : Int) - 1 - k))]) (fun ⟨k, o, AQ1, cQ1, AL1, cL1⟩ L => L.set 2 (some (b8, .cells #[.int .i64 o.rods, .int .i64 o.levers, .int .i64 o.regs, .int .i64 o.travel, .int .i64 o.opn, .slice AB o.buttons.length cB, .slice AQ1 o.pins.length cQ1, .slice AL1 o.links.length cL1, .slice AW o.weights.length cW] 28 (0, 0)))) (fun ⟨k, o, AQ1, cQ1, AL1, cL1⟩ h_k => (k ≤ l.length ∧ o = ownK m fs k) ∧ Row h_k 3 pinC AQ1 o.pins ∧ Row h_k 4 linkC AL1 o.links ∧ o.pins.length ≤ cQ1 ∧ o.links.length ≤ cL1) (fun ⟨k, o, AQ1, cQ1, AL1, cL1⟩ => l.length - k) ((0, m, AQ, cQ, AL, cL)) ⟨intE (by omega), trivial⟩ (rfl) (⟨⟨Nat.zero_le _, (ownK_zero m fs).symm⟩, RM.q.ext E1, RM.l.ext E1, hcQ, hcL⟩) ?_
 rintro ⟨k, o, AQ1, cQ1, AL1, cL1⟩ T1 h_k E_k J_k
 refine goes_norm [_, _, _] rfl ?_
 obtain ⟨⟨J1, J6⟩, J2, J3, J4, J5⟩ := J_k
 refine xp_seq ?_
 refine xp_seq ?_
 refine xp_region rfl ?_
 refine op_pure (pv_move (v := .int .i64 _) rfl) ?_
 refine op_pure (pv_of (v := .bool _) rfl) ?_
 refine xp_cond rfl (fun hk => ?_) (fun hk => ?_)
 ·skip
  have hkl : k < l.length := by have := of_decide_eq_true hk; omega
  have hjx : l.length - 1 - k < l.length := by omega
  have hjf : fs.length - 1 - k < fs.length := by omega
  obtain ⟨hx, hfe⟩ := hfx (l.length - 1 - k) hjx (by omega)
  have hl0 := hls _ (List.getElem_mem hjx)
  have hsc := ownK_succ (m := m) (fs := fs) (k := k) (by omega)
  have hasc := asc_drop hfa (fs.length - (k + 1))
  rw [drop_at (fs := fs) (k := k) (by omega)] at hasc
  have hef : fs[fs.length - 1 - k] = (faultsM m)[l[l.length - 1 - k].toNat] := by rw [← hfe]; congr 1; omega
  have hok := hfo _ (List.getElem_mem hjf)
  rw [hef] at hsc hasc hok
  rw [← J6] at hsc
  obtain ⟨g, off, hA, hc⟩ := (RN.ext (Ext.trans E1 E_k)).at (by omega) hjx
  have hc : Cells h_k g (off + ((l.length : Int) - 1 - k).toNat * 1) (intC l[l.length - 1 - k]) := by rw [show ((l.length : Int) - 1 - k).toNat = l.length - 1 - k by omega]; exact hc
  obtain ⟨g2, off2, hA2, hc2⟩ := (RF.ext E_k).at (by omega) hx
  obtain ⟨F, hF⟩ : ∃ F, F = (faultsM m)[l[l.length - 1 - k].toNat] := ⟨_, rfl⟩
  rw [← hF] at hc2 hsc hasc hok
  refine xp_skip ?_
  refine xp_seq ?_
  refine xp_block ?_
  refine xp_seq ?_
  refine xp_region rfl ?_
  refine op_pure (pv_move (v := .slice _ _ _) rfl) ?_
  refine op_pure (pv_move (v := .slice _ _ _) rfl) ?_
  refine op_pure (pv_move (v := .int .i64 _) rfl) ?_
  refine op_pure (pv_indexE rfl hA rfl rfl rfl (by omega) (by omega)) ?_
  refine op_load (v := .int .i64 _) rfl rfl ((hc) 0 _ rfl) ?_
  refine op_pure (pv_indexE (m := 2) rfl hA2 rfl rfl rfl (by omega) (by omega)) ?_
  rcases F with i | i | i | i
  ·skip
   refine op_loadA rfl rfl rfl rfl (hc2) ?_
   refine op_alloc (cs := [_, _]) rfl rfl fun b10 hb10 => ?_
   refine wp_norm [_, _, _, _] rfl ?_
   refine op_storeP 3 (v := .agg #[.int .i64 _, .int .i64 _]) (vs := [_, _]) (c' := [_, _]) rfl rfl rfl rfl rfl rfl rfl rfl rfl ?_
   refine wp_norm [_, _, _, _] rfl ?_
   refine xp_seq ?_
   refine xp_region rfl ?_
   refine op_pure (pv_fieldAddr rfl rfl rfl rfl 0 rfl) ?_
   refine op_loadP 3 (v := .int .i64 _) rfl rfl rfl rfl ?_
   refine xp_block ?_
   refine xp_seq ?_
   refine xp_region rfl ?_
   refine op_pure (pv_of (v := .bool _) rfl) ?_
   refine op_pure (pv_assign (v := .bool _) rfl) ?_
   refine xp_condF rfl (rfl) ?_
   refine xp_seq ?_
   refine xp_region rfl ?_
   refine op_pure (pv_of (v := .bool _) rfl) ?_
   refine op_pure (pv_assign (v := .bool _) rfl) ?_
   refine xp_condF rfl (rfl) ?_
   refine xp_skip ?_
   refine xp_region rfl ?_
   refine op_pure (pv_move (v := .int .i64 _) rfl) ?_
   refine op_pure (pv_arith rfl (by omega)) ?_
   refine op_pure (pv_assign (v := .int .i64 _) rfl) ?_
   refine ⟨(k + 1, o, AQ1, cQ1, AL1, cL1), ⟨intE (by omega), trivial⟩, rfl, rfl, E_k, fun h3 E3 => ⟨⟨by omega, hsc.symm⟩, (J2.ext (Ext.refl _)).ext E3, (J3.ext (Ext.refl _)).ext E3, J4, J5⟩, by first | omega | (dsimp only; omega), ?_⟩
   repeat (first | exact off_base _ _ _ | refine off_upd (by decide) ?_ | refine off_updL rfl ?_ | refine off_mix rfl ?_)
  ·skip
   refine op_loadA rfl rfl rfl rfl (hc2) ?_
   refine op_alloc (cs := [_, _]) rfl rfl fun b10_1 hb10_1 => ?_
   refine wp_norm [_, _, _, _] rfl ?_
   refine op_storeP 3 (v := .agg #[.int .i64 _, .int .i64 _]) (vs := [_, _]) (c' := [_, _]) rfl rfl rfl rfl rfl rfl rfl rfl rfl ?_
   refine wp_norm [_, _, _, _] rfl ?_
   refine xp_seq ?_
   refine xp_region rfl ?_
   refine op_pure (pv_fieldAddr rfl rfl rfl rfl 0 rfl) ?_
   refine op_loadP 3 (v := .int .i64 _) rfl rfl rfl rfl ?_
   refine xp_block ?_
   refine xp_seq ?_
   refine xp_region rfl ?_
   refine op_pure (pv_of (v := .bool _) rfl) ?_
   refine op_pure (pv_assign (v := .bool _) rfl) ?_
   refine xp_condF rfl (rfl) ?_
   refine xp_seq ?_
   refine xp_region rfl ?_
   refine op_pure (pv_of (v := .bool _) rfl) ?_
   refine op_pure (pv_assign (v := .bool _) rfl) ?_
   refine xp_condF rfl (rfl) ?_
   refine xp_skip ?_
   refine xp_region rfl ?_
   refine op_pure (pv_move (v := .int .i64 _) rfl) ?_
   refine op_pure (pv_arith rfl (by omega)) ?_
   refine op_pure (pv_assign (v := .int .i64 _) rfl) ?_
   refine ⟨(k + 1, o, AQ1, cQ1, AL1, cL1), ⟨intE (by omega), trivial⟩, rfl, rfl, E_k, fun h3 E3 => ⟨⟨by omega, hsc.symm⟩, (J2.ext (Ext.refl _)).ext E3, (J3.ext (Ext.refl _)).ext E3, J4, J5⟩, by first | omega | (dsimp only; omega), ?_⟩
   repeat (first | exact off_base _ _ _ | refine off_upd (by decide) ?_ | refine off_updL rfl ?_ | refine off_mix rfl ?_)
  ·skip
   have hil : i < o.pins.length := by rw [J6]; exact own_pin_lt hasc hok
   have hol : o.pins.length ≤ m.pins.length := by rw [J6]; exact (own_mem (m := m) (fs := fs.drop (fs.length - k))).2.2.1
   refine op_loadA rfl rfl rfl rfl (hc2) ?_
   refine op_alloc (cs := [_, _]) rfl rfl fun b10_2 hb10_2 => ?_
   refine wp_norm [_, _, _, _] rfl ?_
   refine op_storeP 3 (v := .agg #[.int .i64 _, .int .i64 _]) (vs := [_, _]) (c' := [_, _]) rfl rfl rfl rfl rfl rfl rfl rfl rfl ?_
   refine wp_norm [_, _, _, _] rfl ?_
   refine xp_seq ?_
   refine xp_region rfl ?_
   refine op_pure (pv_fieldAddr rfl rfl rfl rfl 0 rfl) ?_
   refine op_loadP 3 (v := .int .i64 _) rfl rfl rfl rfl ?_
   refine xp_block ?_
   refine xp_seq ?_
   refine xp_region rfl ?_
   refine op_pure (pv_of (v := .bool _) rfl) ?_
   refine op_pure (pv_assign (v := .bool _) rfl) ?_
   refine xp_condT rfl (rfl) ?_
   refine xp_region rfl ?_
   refine op_loadPA 2 (vs := [.int .i64 _, .int .i64 _, .int .i64 _, .int .i64 _, .int .i64 _, .slice _ _ _, .slice _ _ _, .slice _ _ _, .slice _ _ _]) rfl rfl rfl rfl rfl ?_
   refine op_pure (pv_fieldAddr rfl rfl rfl rfl 1 rfl) ?_
   refine op_loadP 3 (v := .int .i64 _) rfl rfl rfl rfl ?_
   refine op_fn (caps := []) (vs := [.agg #[.int .i64 _, .int .i64 _, .int .i64 _, .int .i64 _, .int .i64 _, .slice _ _ _, .slice _ _ _, .slice _ _ _, .slice _ _ _], .int .i64 _]) rfl rfl rfl (WithoutPinR_ok o i hil (by omega) AB AQ1 AL1 AW cB cQ1 cL1 cW J4 h_k (J2.ext (Ext.refl _))) ?_
   rintro _ h2 E2 ⟨A2, c2, rfl, R2, C2⟩
   refine op_storeP 2 (v := .agg #[.int .i64 _, .int .i64 _, .int .i64 _, .int .i64 _, .int .i64 _, .slice _ _ _, .slice _ _ _, .slice _ _ _, .slice _ _ _]) (vs := [_, _, _, _, _, _, _, _, _]) (c' := [_, _, _, _, _, _, _, _, _]) rfl rfl rfl rfl rfl rfl rfl rfl rfl ?_
   refine wp_norm [_, _, _, _] rfl ?_
   refine xp_region rfl ?_
   refine op_pure (pv_move (v := .int .i64 _) rfl) ?_
   refine op_pure (pv_arith rfl (by omega)) ?_
   refine op_pure (pv_assign (v := .int .i64 _) rfl) ?_
   refine ⟨(k + 1, { o with pins := o.pins.eraseIdx i }, A2, c2, AL1, cL1), ⟨intE (by omega), trivial⟩, rfl, rfl, (Ext.trans E_k E2), fun h3 E3 => ⟨⟨by omega, hsc.symm⟩, (R2.ext (Ext.refl _)).ext E3, (J3.ext E2).ext E3, C2, J5⟩, by first | omega | (dsimp only; omega), ?_⟩
   repeat (first | exact off_base _ _ _ | refine off_upd (by decide) ?_ | refine off_updL rfl ?_ | refine off_mix rfl ?_)
  ·skip
   have hil : i < o.links.length := by rw [J6]; exact own_link_lt hasc hok
   have hol : o.links.length ≤ m.links.length := by rw [J6]; exact (own_mem (m := m) (fs := fs.drop (fs.length - k))).2.2.2
   refine op_loadA rfl rfl rfl rfl (hc2) ?_
   refine op_alloc (cs := [_, _]) rfl rfl fun b10_3 hb10_3 => ?_
   refine wp_norm [_, _, _, _] rfl ?_
   refine op_storeP 3 (v := .agg #[.int .i64 _, .int .i64 _]) (vs := [_, _]) (c' := [_, _]) rfl rfl rfl rfl rfl rfl rfl rfl rfl ?_
   refine wp_norm [_, _, _, _] rfl ?_
   refine xp_seq ?_
   refine xp_region rfl ?_
   refine op_pure (pv_fieldAddr rfl rfl rfl rfl 0 rfl) ?_
   refine op_loadP 3 (v := .int .i64 _) rfl rfl rfl rfl ?_
   refine xp_block ?_
   refine xp_seq ?_
   refine xp_region rfl ?_
   refine op_pure (pv_of (v := .bool _) rfl) ?_
   refine op_pure (pv_assign (v := .bool _) rfl) ?_
   refine xp_condF rfl (rfl) ?_
   refine xp_seq ?_
   refine xp_region rfl ?_
   refine op_pure (pv_of (v := .bool _) rfl) ?_
   refine op_pure (pv_assign (v := .bool _) rfl) ?_
   refine xp_condT rfl (rfl) ?_
   refine xp_region rfl ?_
   refine op_loadPA 2 (vs := [.int .i64 _, .int .i64 _, .int .i64 _, .int .i64 _, .int .i64 _, .slice _ _ _, .slice _ _ _, .slice _ _ _, .slice _ _ _]) rfl rfl rfl rfl rfl ?_
   refine op_pure (pv_fieldAddr rfl rfl rfl rfl 1 rfl) ?_
   refine op_loadP 3 (v := .int .i64 _) rfl rfl rfl rfl ?_
   refine op_fn (caps := []) (vs := [.agg #[.int .i64 _, .int .i64 _, .int .i64 _, .int .i64 _, .int .i64 _, .slice _ _ _, .slice _ _ _, .slice _ _ _, .slice _ _ _], .int .i64 _]) rfl rfl rfl (WithoutLinkR_ok o i hil (by omega) AB AQ1 AL1 AW cB cQ1 cL1 cW J5 h_k (J3.ext (Ext.refl _))) ?_
   rintro _ h2 E2 ⟨A2, c2, rfl, R2, C2⟩
   refine op_storeP 2 (v := .agg #[.int .i64 _, .int .i64 _, .int .i64 _, .int .i64 _, .int .i64 _, .slice _ _ _, .slice _ _ _, .slice _ _ _, .slice _ _ _]) (vs := [_, _, _, _, _, _, _, _, _]) (c' := [_, _, _, _, _, _, _, _, _]) rfl rfl rfl rfl rfl rfl rfl rfl rfl ?_
   refine wp_norm [_, _, _, _] rfl ?_
   refine xp_region rfl ?_
   refine op_pure (pv_move (v := .int .i64 _) rfl) ?_
   refine op_pure (pv_arith rfl (by omega)) ?_
   refine op_pure (pv_assign (v := .int .i64 _) rfl) ?_
   refine ⟨(k + 1, { o with links := o.links.eraseIdx i }, AQ1, cQ1, A2, c2), ⟨intE (by omega), trivial⟩, rfl, rfl, (Ext.trans E_k E2), fun h3 E3 => ⟨⟨by omega, hsc.symm⟩, (J2.ext E2).ext E3, (R2.ext (Ext.refl _)).ext E3, J4, C2⟩, by first | omega | (dsimp only; omega), ?_⟩
   repeat (first | exact off_base _ _ _ | refine off_upd (by decide) ?_ | refine off_updL rfl ?_ | refine off_mix rfl ?_)
 ·skip
  have hke : k = fs.length := by have := of_decide_eq_false hk; omega
  rw [hke, ownK_all] at J6
  subst J6
  obtain ⟨s1, s2, s3, s4, s5, s6, s7⟩ := own_same m fs
  have hX := own_sounds M H hfa
  obtain ⟨x, hx0⟩ : ∃ x, x = soundsM (brkM m fs) a m.travel := ⟨_, rfl⟩
  have L1 := soundsR_ok (ownR m fs) (own_mok M fs) a (fit_of (own_mok M fs) (own_hok H fs)) AB AQ1 AL1 AW HA OA cB cQ1 cL1 cW cH cO
  rw [s4, hX, ← hx0] at L1
  have RB1 := RM.b.ext (Ext.trans E1 E_k)
  have RW1 := RM.w.ext (Ext.trans E1 E_k)
  rw [← s6] at RB1
  rw [← s7] at RW1
  refine xp_exit ?_
  refine xp_seq ?_
  refine xp_region rfl ?_
  refine op_loadPA 2 (vs := [.int .i64 _, .int .i64 _, .int .i64 _, .int .i64 _, .int .i64 _, .slice _ _ _, .slice _ _ _, .slice _ _ _, .slice _ _ _]) rfl rfl rfl rfl rfl ?_
  refine op_loadPA 1 (vs := [.slice _ _ _, .slice _ _ _]) rfl rfl rfl rfl rfl ?_
  refine op_fn (caps := []) (vs := [.agg _, .agg _]) rfl rfl rfl (L1 h_k ⟨RB1, J2.ext (Ext.refl _), J3.ext (Ext.refl _), RW1⟩ (RH.ext (Ext.trans E1 E_k))) ?_
  rintro _ h4 E4 ⟨A4, c4, rfl, R4⟩
  have bb := brk_bits mlv.2 hfo
  have hx6 : x < 2 ^ 6 := by
   rw [hx0]
   exact Nat.lt_of_lt_of_le (sounds_lt (brkM m fs) a m.travel) (Nat.pow_le_pow_right (by omega) (by show m.levers.toNat ≤ 6; omega))
  obtain ⟨sK, hsK⟩ : ∃ sK : Nat → Nat, ∀ k, sK k = x ||| (brkF m (fs.take k)).stay := ⟨fun k => x ||| (brkF m (fs.take k)).stay, fun _ => rfl⟩
  have hs0 : sK 0 = x := (hsK 0).trans (Nat.or_zero x)
  have hsS : ∀ k (hk : k < fs.length), sK (k + 1) = x ||| (brkS m.travel (brkF m (fs.take k)) fs[k]).stay := fun k hk => by rw [hsK, brkF_take hk]
  obtain ⟨y, hy⟩ : ∃ y, y = sK l.length := ⟨_, rfl⟩
  have hyv : y = x ||| (brkF m fs).stay := by rw [hy, hsK, ← hfl, List.take_length]
  have hy6 : y < 2 ^ 6 := by rw [hyv]; exact Nat.or_lt_two_pow hx6 bb.1
  obtain ⟨dK, hdK⟩ : ∃ dK : Nat → Nat, ∀ k, dK k = y &&& (2 ^ 64 - 1 - (brkF m (fs.take k)).dumb) := ⟨fun k => y &&& (2 ^ 64 - 1 - (brkF m (fs.take k)).dumb), fun _ => rfl⟩
  have hd0 : dK 0 = y := (hdK 0).trans (and_mask (by omega))
  have hdS : ∀ k (hk : k < fs.length), dK (k + 1) = y &&& (2 ^ 64 - 1 - (brkS m.travel (brkF m (fs.take k)) fs[k]).dumb) := fun k hk => by rw [hdK, brkF_take hk]
  have hdv : dK l.length = soundsB m fs a := by rw [hdK, ← hfl, List.take_length, hyv, hx0]; rfl
  have hdb : ∀ k, (brkF m (fs.take k)).dumb < 2 ^ 6 := fun k => (brk_bits mlv.2 (fun f hf => hfo f (take_mem hf))).2
  rw [← hdv]
  refine op_pure (pv_assign (v := .slice _ _ _) rfl) ?_
  refine xp_seq ?_
  refine xp_seq ?_
  refine xp_region rfl ?_
  refine op_pure (pv_assign (v := .int .i64 _) rfl) ?_
  refine xp_block ?_
  refine xp_loopB [11, 12, 13, 50, 51, 52, 53, 54, 55, 56, 57, 58, 59, 60, 61, 62, 63, 64, 65, 66, 67, 68, 69, 70, 71, 72, 73, 74, 75, 76] 3 (α := Nat × Option Addr × Nat) (fun ⟨q, VA, cV⟩ => [(12, .int .i64 q), (11, .slice VA (listN (sK q) 6).length cV)]) (fun ⟨q, VA, cV⟩ => _) (fun ⟨q, VA, cV⟩ h_q => q ≤ l.length ∧ Row h_q 1 intC VA (listN (sK q) 6)) (fun ⟨q, VA, cV⟩ => l.length - q) ((0, A4, c4)) ⟨rfl, slcE (lenE hs0.symm), trivial⟩ (rfl) (⟨Nat.zero_le _, rowE hs0.symm (R4.ext (Ext.refl _))⟩) ?_
  rintro ⟨q, VA, cV⟩ T2 h_q E_q J_q
  refine goes_norm [_, _, _] rfl ?_
  obtain ⟨Q1, Q2⟩ := J_q
  refine xp_seq ?_
  refine xp_seq ?_
  refine xp_region rfl ?_
  refine op_pure (pv_move (v := .int .i64 _) rfl) ?_
  refine op_pure (pv_move (v := .slice _ _ _) rfl) ?_
  refine op_pure (pv_len rfl rfl) ?_
  refine op_pure (pv_of (v := .bool _) rfl) ?_
  refine xp_cond rfl (fun hq => ?_) (fun hq => ?_)
  ·skip
   have hql : q < l.length := ltI hq
   have hqf : q < fs.length := by omega
   obtain ⟨hx, hfe⟩ := hfx q hql hqf
   have hl0 := hls _ (List.getElem_mem hql)
   have hsc := hsS q hqf
   have hok := hfo _ (List.getElem_mem hqf)
   rw [hfe] at hsc hok
   have hll2 := listN_len (sK q) 6
   obtain ⟨g, off, hA, hc⟩ := (RN.ext (Ext.trans (Ext.trans (Ext.trans E1 E_k) E4) E_q)).at (by omega) hql
   obtain ⟨g2, off2, hA2, hc2⟩ := (RF.ext (Ext.trans (Ext.trans E_k E4) E_q)).at (by omega) hx
   obtain ⟨F, hF⟩ : ∃ F, F = (faultsM m)[l[q].toNat] := ⟨_, rfl⟩
   rw [← hF] at hc2 hsc hok
   refine xp_skip ?_
   refine xp_seq ?_
   refine xp_block ?_
   refine xp_seq ?_
   refine xp_region rfl ?_
   refine op_pure (pv_move (v := .slice _ _ _) rfl) ?_
   refine op_pure (pv_move (v := .slice _ _ _) rfl) ?_
   refine op_pure (pv_move (v := .int .i64 _) rfl) ?_
   refine op_pure (pv_indexE rfl hA rfl rfl rfl (by omega) (by omega)) ?_
   refine op_load (v := .int .i64 _) rfl rfl ((hc) 0 _ rfl) ?_
   refine op_pure (pv_indexE (m := 2) rfl hA2 rfl rfl rfl (by omega) (by omega)) ?_
   rcases F with i | i | i | i
   ·skip
    have hsc : sK (q + 1) = sK q := hsc.trans (hsK q).symm
    refine op_loadA rfl rfl rfl rfl (hc2) ?_
    refine op_alloc (cs := [_, _]) rfl rfl fun b13 hb13 => ?_
    refine wp_norm [_, _, _, _] rfl ?_
    refine op_storeP 3 (v := .agg #[.int .i64 _, .int .i64 _]) (vs := [_, _]) (c' := [_, _]) rfl rfl rfl rfl rfl rfl rfl rfl rfl ?_
    refine wp_norm [_, _, _, _] rfl ?_
    refine xp_seq ?_
    refine xp_region rfl ?_
    refine op_pure (pv_fieldAddr rfl rfl rfl rfl 0 rfl) ?_
    refine op_loadP 3 (v := .int .i64 _) rfl rfl rfl rfl ?_
    refine op_pure (pv_of (v := .bool _) rfl) ?_
    refine op_pure (pv_move (v := .bool _) rfl) ?_
    refine guard_no rfl rfl ?_
    refine guard_no rfl rfl ?_
    refine guard_no rfl rfl ?_
    refine guard_no rfl rfl ?_
    refine guard_no rfl rfl ?_
    refine op_pure (pv_pickF rfl rfl (v := .bool _) rfl) ?_
    refine xp_condF rfl (rfl) ?_
    refine xp_skip ?_
    refine xp_region rfl ?_
    refine op_pure (pv_move (v := .int .i64 _) rfl) ?_
    refine op_pure (pv_arith rfl (by omega)) ?_
    refine op_pure (pv_assign (v := .int .i64 _) rfl) ?_
    refine ⟨(q + 1, VA, cV), ⟨rfl, slcE (lenE hsc.symm), trivial⟩, rfl, rfl, E_q, fun h3 E3 => ⟨hql, rowE hsc.symm ((Q2.ext (Ext.refl _)).ext E3)⟩, by first | omega | (dsimp only; omega), ?_⟩
    repeat (first | exact off_base _ _ _ | refine off_upd (by decide) ?_ | refine off_updL rfl ?_ | refine off_mix rfl ?_)
   ·skip
    have hi6 : i < 6 := by have : (i : Int) < m.levers := hok; omega
    have hsc : sK (q + 1) = sK q ||| 2 ^ i := by rw [hsc, hsK q, Nat.or_assoc]; rfl
    refine op_loadA rfl rfl rfl rfl (hc2) ?_
    refine op_alloc (cs := [_, _]) rfl rfl fun b13_1 hb13_1 => ?_
    refine wp_norm [_, _, _, _] rfl ?_
    refine op_storeP 3 (v := .agg #[.int .i64 _, .int .i64 _]) (vs := [_, _]) (c' := [_, _]) rfl rfl rfl rfl rfl rfl rfl rfl rfl ?_
    refine wp_norm [_, _, _, _] rfl ?_
    refine xp_seq ?_
    refine xp_region rfl ?_
    refine op_pure (pv_fieldAddr rfl rfl rfl rfl 0 rfl) ?_
    refine op_loadP 3 (v := .int .i64 _) rfl rfl rfl rfl ?_
    refine op_pure (pv_of (v := .bool _) rfl) ?_
    refine op_pure (pv_move (v := .bool _) rfl) ?_
    refine guard_yes rfl rfl ?_
    refine op_pure (pv_move (v := .slice _ _ _) rfl) ?_
    refine guard_yes rfl rfl ?_
    refine op_pure (pv_fieldAddr rfl rfl rfl rfl 1 rfl) ?_
    refine guard_yes rfl rfl ?_
    refine op_loadP 3 (v := .int .i64 _) rfl rfl rfl rfl ?_
    refine guard_yes rfl rfl ?_
    refine op_fn (caps := []) (vs := [.slice _ _ _, .int .i64 _]) rfl rfl rfl (hasR_ok (listN (sK q) 6) i VA cV h_q (Q2.ext (Ext.refl _)) (by omega)) ?_
    rintro _ h5 E5 rfl
    rw [has_bit hi6]
    refine guard_yes rfl rfl ?_
    refine op_pure (pv_of (v := .bool _) rfl) ?_
    refine op_pure (pv_pickT rfl rfl (v := .bool _) rfl) ?_
    refine xp_cond rfl (fun hb => ?_) (fun hb => ?_)
    ·skip
     have hb' : (sK q).testBit i = false := by simpa using hb
     refine xp_region rfl ?_
     refine op_pure (pv_move (v := .slice _ _ _) rfl) ?_
     refine op_pure (pv_fieldAddr rfl rfl rfl rfl 1 rfl) ?_
     refine op_loadP 3 (v := .int .i64 _) rfl rfl rfl rfl ?_
     refine op_fn (caps := []) (vs := [.slice _ _ _, .int .i64 _]) rfl rfl rfl (withR_ok (listN (sK q) 6) i VA cV h5 (Q2.ext E5) (by omega)) ?_
     rintro _ h6 E6 ⟨A6, c6, rfl, R6⟩
     rw [with_list hi6 hb'] at R6 ⊢
     refine op_pure (pv_assign (v := .slice _ _ _) rfl) ?_
     refine xp_region rfl ?_
     refine op_pure (pv_move (v := .int .i64 _) rfl) ?_
     refine op_pure (pv_arith rfl (by omega)) ?_
     refine op_pure (pv_assign (v := .int .i64 _) rfl) ?_
     refine ⟨(q + 1, A6, c6), ⟨rfl, slcE (lenE hsc.symm), trivial⟩, rfl, rfl, (Ext.trans (Ext.trans E_q E5) E6), fun h3 E3 => ⟨hql, rowE hsc.symm ((R6.ext (Ext.refl _)).ext E3)⟩, by first | omega | (dsimp only; omega), ?_⟩
     repeat (first | exact off_base _ _ _ | refine off_upd (by decide) ?_ | refine off_updL rfl ?_ | refine off_mix rfl ?_)
    ·skip
     have hb' : (sK q).testBit i = true := by simpa using hb
     have hsc : sK (q + 1) = sK q := hsc.trans (with_had hb')
     refine xp_skip ?_
     refine xp_region rfl ?_
     refine op_pure (pv_move (v := .int .i64 _) rfl) ?_
     refine op_pure (pv_arith rfl (by omega)) ?_
     refine op_pure (pv_assign (v := .int .i64 _) rfl) ?_
     refine ⟨(q + 1, VA, cV), ⟨rfl, slcE (lenE hsc.symm), trivial⟩, rfl, rfl, (Ext.trans E_q E5), fun h3 E3 => ⟨hql, rowE hsc.symm ((Q2.ext E5).ext E3)⟩, by first | omega | (dsimp only; omega), ?_⟩
     repeat (first | exact off_base _ _ _ | refine off_upd (by decide) ?_ | refine off_updL rfl ?_ | refine off_mix rfl ?_)
   ·skip
    have hsc : sK (q + 1) = sK q := hsc.trans (hsK q).symm
    refine op_loadA rfl rfl rfl rfl (hc2) ?_
    refine op_alloc (cs := [_, _]) rfl rfl fun b13_2 hb13_2 => ?_
    refine wp_norm [_, _, _, _] rfl ?_
    refine op_storeP 3 (v := .agg #[.int .i64 _, .int .i64 _]) (vs := [_, _]) (c' := [_, _]) rfl rfl rfl rfl rfl rfl rfl rfl rfl ?_
    refine wp_norm [_, _, _, _] rfl ?_
    refine xp_seq ?_
    refine xp_region rfl ?_
    refine op_pure (pv_fieldAddr rfl rfl rfl rfl 0 rfl) ?_
    refine op_loadP 3 (v := .int .i64 _) rfl rfl rfl rfl ?_
    refine op_pure (pv_of (v := .bool _) rfl) ?_
    refine op_pure (pv_move (v := .bool _) rfl) ?_
    refine guard_no rfl rfl ?_
    refine guard_no rfl rfl ?_
    refine guard_no rfl rfl ?_
    refine guard_no rfl rfl ?_
    refine guard_no rfl rfl ?_
    refine op_pure (pv_pickF rfl rfl (v := .bool _) rfl) ?_
    refine xp_condF rfl (rfl) ?_
    refine xp_skip ?_
    refine xp_region rfl ?_
    refine op_pure (pv_move (v := .int .i64 _) rfl) ?_
    refine op_pure (pv_arith rfl (by omega)) ?_
    refine op_pure (pv_assign (v := .int .i64 _) rfl) ?_
    refine ⟨(q + 1, VA, cV), ⟨rfl, slcE (lenE hsc.symm), trivial⟩, rfl, rfl, E_q, fun h3 E3 => ⟨hql, rowE hsc.symm ((Q2.ext (Ext.refl _)).ext E3)⟩, by first | omega | (dsimp only; omega), ?_⟩
    repeat (first | exact off_base _ _ _ | refine off_upd (by decide) ?_ | refine off_updL rfl ?_ | refine off_mix rfl ?_)
   ·skip
    have hsc : sK (q + 1) = sK q := hsc.trans (hsK q).symm
    refine op_loadA rfl rfl rfl rfl (hc2) ?_
    refine op_alloc (cs := [_, _]) rfl rfl fun b13_3 hb13_3 => ?_
    refine wp_norm [_, _, _, _] rfl ?_
    refine op_storeP 3 (v := .agg #[.int .i64 _, .int .i64 _]) (vs := [_, _]) (c' := [_, _]) rfl rfl rfl rfl rfl rfl rfl rfl rfl ?_
    refine wp_norm [_, _, _, _] rfl ?_
    refine xp_seq ?_
    refine xp_region rfl ?_
    refine op_pure (pv_fieldAddr rfl rfl rfl rfl 0 rfl) ?_
    refine op_loadP 3 (v := .int .i64 _) rfl rfl rfl rfl ?_
    refine op_pure (pv_of (v := .bool _) rfl) ?_
    refine op_pure (pv_move (v := .bool _) rfl) ?_
    refine guard_no rfl rfl ?_
    refine guard_no rfl rfl ?_
    refine guard_no rfl rfl ?_
    refine guard_no rfl rfl ?_
    refine guard_no rfl rfl ?_
    refine op_pure (pv_pickF rfl rfl (v := .bool _) rfl) ?_
    refine xp_condF rfl (rfl) ?_
    refine xp_skip ?_
    refine xp_region rfl ?_
    refine op_pure (pv_move (v := .int .i64 _) rfl) ?_
    refine op_pure (pv_arith rfl (by omega)) ?_
    refine op_pure (pv_assign (v := .int .i64 _) rfl) ?_
    refine ⟨(q + 1, VA, cV), ⟨rfl, slcE (lenE hsc.symm), trivial⟩, rfl, rfl, E_q, fun h3 E3 => ⟨hql, rowE hsc.symm ((Q2.ext (Ext.refl _)).ext E3)⟩, by first | omega | (dsimp only; omega), ?_⟩
    repeat (first | exact off_base _ _ _ | refine off_upd (by decide) ?_ | refine off_updL rfl ?_ | refine off_mix rfl ?_)
  ·skip
   have hqe : q = l.length := by have := geI hq; omega
   subst hqe
   have hyd : sK l.length = dK 0 := hy.symm.trans hd0.symm
   refine xp_exit ?_
   refine xp_seq ?_
   refine xp_seq ?_
   refine xp_region rfl ?_
   refine op_pure (pv_assign (v := .int .i64 _) rfl) ?_
   refine xp_block ?_
   refine xp_loopB [11, 14, 15, 77, 78, 79, 80, 81, 82, 83, 84, 85, 86, 87, 88, 89, 90, 91, 92, 93, 94, 95, 96] 3 (α := Nat × Option Addr × Nat) (fun ⟨z, VB, cV2⟩ => [(14, .int .i64 z), (11, .slice VB (listN (dK z) 6).length cV2)]) (fun ⟨z, VB, cV2⟩ => _) (fun ⟨z, VB, cV2⟩ h_z => z ≤ l.length ∧ Row h_z 1 intC VB (listN (dK z) 6)) (fun ⟨z, VB, cV2⟩ => l.length - z) ((0, VA, cV)) ⟨rfl, slcE (lenE hyd), trivial⟩ (rfl) (⟨Nat.zero_le _, rowE hyd (Q2.ext (Ext.refl _))⟩) ?_
   rintro ⟨z, VB, cV2⟩ T3 h_z E_z J_z
   refine goes_norm [_, _, _] rfl ?_
   obtain ⟨Z1, Z2⟩ := J_z
   refine xp_seq ?_
   refine xp_seq ?_
   refine xp_region rfl ?_
   refine op_pure (pv_move (v := .int .i64 _) rfl) ?_
   refine op_pure (pv_move (v := .slice _ _ _) rfl) ?_
   refine op_pure (pv_len rfl rfl) ?_
   refine op_pure (pv_of (v := .bool _) rfl) ?_
   refine xp_cond rfl (fun hz => ?_) (fun hz => ?_)
   ·skip
    have hzl : z < l.length := ltI hz
    have hzf : z < fs.length := by omega
    obtain ⟨hx, hfe⟩ := hfx z hzl hzf
    have hl0 := hls _ (List.getElem_mem hzl)
    have hsc := hdS z hzf
    have hok := hfo _ (List.getElem_mem hzf)
    rw [hfe] at hsc hok
    have hll2 := listN_len (dK z) 6
    obtain ⟨g, off, hA, hc⟩ := (RN.ext (Ext.trans (Ext.trans (Ext.trans (Ext.trans E1 E_k) E4) E_q) E_z)).at (by omega) hzl
    obtain ⟨g2, off2, hA2, hc2⟩ := (RF.ext (Ext.trans (Ext.trans (Ext.trans E_k E4) E_q) E_z)).at (by omega) hx
    obtain ⟨F, hF⟩ : ∃ F, F = (faultsM m)[l[z].toNat] := ⟨_, rfl⟩
    rw [← hF] at hc2 hsc hok
    refine xp_skip ?_
    refine xp_seq ?_
    refine xp_block ?_
    refine xp_seq ?_
    refine xp_region rfl ?_
    refine op_pure (pv_move (v := .slice _ _ _) rfl) ?_
    refine op_pure (pv_move (v := .slice _ _ _) rfl) ?_
    refine op_pure (pv_move (v := .int .i64 _) rfl) ?_
    refine op_pure (pv_indexE rfl hA rfl rfl rfl (by omega) (by omega)) ?_
    refine op_load (v := .int .i64 _) rfl rfl ((hc) 0 _ rfl) ?_
    refine op_pure (pv_indexE (m := 2) rfl hA2 rfl rfl rfl (by omega) (by omega)) ?_
    rcases F with i | i | i | i
    ·skip
     have hi6 : i < 6 := by have : (i : Int) < m.levers := hok; omega
     have hwl : (listN (dK z) 6).filter (fun u => u != (i : Int)) = listN (dK (z + 1)) 6 := by rw [hsc, hdK z]; exact without_list (hdb z) hi6
     refine op_loadA rfl rfl rfl rfl (hc2) ?_
     refine op_alloc (cs := [_, _]) rfl rfl fun b15 hb15 => ?_
     refine wp_norm [_, _, _, _] rfl ?_
     refine op_storeP 3 (v := .agg #[.int .i64 _, .int .i64 _]) (vs := [_, _]) (c' := [_, _]) rfl rfl rfl rfl rfl rfl rfl rfl rfl ?_
     refine wp_norm [_, _, _, _] rfl ?_
     refine xp_seq ?_
     refine xp_region rfl ?_
     refine op_pure (pv_fieldAddr rfl rfl rfl rfl 0 rfl) ?_
     refine op_loadP 3 (v := .int .i64 _) rfl rfl rfl rfl ?_
     refine op_pure (pv_of (v := .bool _) rfl) ?_
     refine xp_condT rfl (rfl) ?_
     refine xp_region rfl ?_
     refine op_pure (pv_move (v := .slice _ _ _) rfl) ?_
     refine op_pure (pv_fieldAddr rfl rfl rfl rfl 1 rfl) ?_
     refine op_loadP 3 (v := .int .i64 _) rfl rfl rfl rfl ?_
     refine op_fn (caps := []) (vs := [.slice _ _ _, .int .i64 _]) rfl rfl rfl (withoutR_ok (listN (dK z) 6) i VB cV2 h_z (Z2.ext (Ext.refl _)) (by omega)) ?_
     rintro _ h6 E6 ⟨A6, c6, rfl, R6⟩
     rw [hwl] at R6 ⊢
     refine op_pure (pv_assign (v := .slice _ _ _) rfl) ?_
     refine xp_region rfl ?_
     refine op_pure (pv_move (v := .int .i64 _) rfl) ?_
     refine op_pure (pv_arith rfl (by omega)) ?_
     refine op_pure (pv_assign (v := .int .i64 _) rfl) ?_
     refine ⟨(z + 1, A6, c6), ⟨rfl, rfl, trivial⟩, rfl, rfl, (Ext.trans E_z E6), fun h3 E3 => ⟨hzl, (R6.ext (Ext.refl _)).ext E3⟩, by first | omega | (dsimp only; omega), ?_⟩
     repeat (first | exact off_base _ _ _ | refine off_upd (by decide) ?_ | refine off_updL rfl ?_ | refine off_mix rfl ?_)
    ·skip
     have hsc : dK (z + 1) = dK z := hsc.trans (hdK z).symm
     refine op_loadA rfl rfl rfl rfl (hc2) ?_
     refine op_alloc (cs := [_, _]) rfl rfl fun b15_1 hb15_1 => ?_
     refine wp_norm [_, _, _, _] rfl ?_
     refine op_storeP 3 (v := .agg #[.int .i64 _, .int .i64 _]) (vs := [_, _]) (c' := [_, _]) rfl rfl rfl rfl rfl rfl rfl rfl rfl ?_
     refine wp_norm [_, _, _, _] rfl ?_
     refine xp_seq ?_
     refine xp_region rfl ?_
     refine op_pure (pv_fieldAddr rfl rfl rfl rfl 0 rfl) ?_
     refine op_loadP 3 (v := .int .i64 _) rfl rfl rfl rfl ?_
     refine op_pure (pv_of (v := .bool _) rfl) ?_
     refine xp_condF rfl (rfl) ?_
     refine xp_skip ?_
     refine xp_region rfl ?_
     refine op_pure (pv_move (v := .int .i64 _) rfl) ?_
     refine op_pure (pv_arith rfl (by omega)) ?_
     refine op_pure (pv_assign (v := .int .i64 _) rfl) ?_
     refine ⟨(z + 1, VB, cV2), ⟨rfl, slcE (lenE hsc.symm), trivial⟩, rfl, rfl, E_z, fun h3 E3 => ⟨hzl, rowE hsc.symm ((Z2.ext (Ext.refl _)).ext E3)⟩, by first | omega | (dsimp only; omega), ?_⟩
     repeat (first | exact off_base _ _ _ | refine off_upd (by decide) ?_ | refine off_updL rfl ?_ | refine off_mix rfl ?_)
    ·skip
     have hsc : dK (z + 1) = dK z := hsc.trans (hdK z).symm
     refine op_loadA rfl rfl rfl rfl (hc2) ?_
     refine op_alloc (cs := [_, _]) rfl rfl fun b15_2 hb15_2 => ?_
     refine wp_norm [_, _, _, _] rfl ?_
     refine op_storeP 3 (v := .agg #[.int .i64 _, .int .i64 _]) (vs := [_, _]) (c' := [_, _]) rfl rfl rfl rfl rfl rfl rfl rfl rfl ?_
     refine wp_norm [_, _, _, _] rfl ?_
     refine xp_seq ?_
     refine xp_region rfl ?_
     refine op_pure (pv_fieldAddr rfl rfl rfl rfl 0 rfl) ?_
     refine op_loadP 3 (v := .int .i64 _) rfl rfl rfl rfl ?_
     refine op_pure (pv_of (v := .bool _) rfl) ?_
     refine xp_condF rfl (rfl) ?_
     refine xp_skip ?_
     refine xp_region rfl ?_
     refine op_pure (pv_move (v := .int .i64 _) rfl) ?_
     refine op_pure (pv_arith rfl (by omega)) ?_
     refine op_pure (pv_assign (v := .int .i64 _) rfl) ?_
     refine ⟨(z + 1, VB, cV2), ⟨rfl, slcE (lenE hsc.symm), trivial⟩, rfl, rfl, E_z, fun h3 E3 => ⟨hzl, rowE hsc.symm ((Z2.ext (Ext.refl _)).ext E3)⟩, by first | omega | (dsimp only; omega), ?_⟩
     repeat (first | exact off_base _ _ _ | refine off_upd (by decide) ?_ | refine off_updL rfl ?_ | refine off_mix rfl ?_)
    ·skip
     have hsc : dK (z + 1) = dK z := hsc.trans (hdK z).symm
     refine op_loadA rfl rfl rfl rfl (hc2) ?_
     refine op_alloc (cs := [_, _]) rfl rfl fun b15_3 hb15_3 => ?_
     refine wp_norm [_, _, _, _] rfl ?_
     refine op_storeP 3 (v := .agg #[.int .i64 _, .int .i64 _]) (vs := [_, _]) (c' := [_, _]) rfl rfl rfl rfl rfl rfl rfl rfl rfl ?_
     refine wp_norm [_, _, _, _] rfl ?_
     refine xp_seq ?_
     refine xp_region rfl ?_
     refine op_pure (pv_fieldAddr rfl rfl rfl rfl 0 rfl) ?_
     refine op_loadP 3 (v := .int .i64 _) rfl rfl rfl rfl ?_
     refine op_pure (pv_of (v := .bool _) rfl) ?_
     refine xp_condF rfl (rfl) ?_
     refine xp_skip ?_
     refine xp_region rfl ?_
     refine op_pure (pv_move (v := .int .i64 _) rfl) ?_
     refine op_pure (pv_arith rfl (by omega)) ?_
     refine op_pure (pv_assign (v := .int .i64 _) rfl) ?_
     refine ⟨(z + 1, VB, cV2), ⟨rfl, slcE (lenE hsc.symm), trivial⟩, rfl, rfl, E_z, fun h3 E3 => ⟨hzl, rowE hsc.symm ((Z2.ext (Ext.refl _)).ext E3)⟩, by first | omega | (dsimp only; omega), ?_⟩
     repeat (first | exact off_base _ _ _ | refine off_upd (by decide) ?_ | refine off_updL rfl ?_ | refine off_mix rfl ?_)
   ·skip
    have hze : z = l.length := by have := geI hz; omega
    subst hze
    refine xp_exit ?_
    refine xp_seq ?_
    refine xp_region rfl ?_
    refine op_pure (pv_move (v := .slice _ _ _) rfl) ?_
    refine op_pure (pv_assign (v := .slice _ _ _) rfl) ?_
    refine xp_ret ?_
    refine res_list (vs := [_]) Try.results107 ⟨resV_tmp rfl rfl, trivial⟩ fun V => ?_
    exact ⟨(Ext.trans (Ext.trans (Ext.trans (Ext.trans (Ext.trans E1 E_k) E4) E_q) E_z) (ext_wl V)), VB, cV2, rfl, (Z2.ext (Ext.refl _)).ext (ext_wl V)⟩
end
end Go.Proofs.Ythphpbdmbmiaiaa
/- Walks of the reference: Broken, told, Left; what is heard of a machine with faults. Conditions: as each theorem states. -/
namespace Go.Proofs.Ythphpbdmbmiaiaa
open Go Go.HL Go.Proofs Go.Wx Go.Rd
section
variable [Lvl]
set_option maxRecDepth 100000
end
end Go.Proofs.Ythphpbdmbmiaiaa
/- Walks: copies of what was heard; how many are left. Conditions: as each theorem states. -/
namespace Go.Proofs.Ythphpbdmbmiaiaa
open Go Go.HL Go.Proofs Go.Wx Go.Rd
section
variable [Lvl]
set_option maxRecDepth 100000
theorem Ints_ok (l : List Int) (A : Option Addr) (c : Nat) (h : AH) (R : Row h 1 intC A l) (hl : l.length < 2 ^ 20) :
  FnT Try.prog 56 #[.slice A l.length c] h (fun v h' => SlR h' 1 intC l v) := by
 refine call_body Try.func56 rfl Try.ntmps56 rfl ?_
 refine xp_seq ?_
 refine xp_region rfl ?_
 refine op_pure (pv_assign (v := .slice _ _ _) rfl) ?_
 refine xp_seq ?_
 refine xp_region rfl ?_
 refine op_buildSlice (zc := [_]) (vs := []) (cs := []) rfl rfl rfl rfl rfl rfl rfl fun b3 hb3 => ?_
 refine wp_norm [_] rfl ?_
 refine op_pure (pv_move (v := .slice _ _ _) rfl) ?_
 refine op_appendR 0 accR_new rfl rfl rfl (fun V => R.2.ext (Ext.trans (Ext.refl _) (ext_wl V))) (flat_len R.1) (flat_plain intP2 l) rfl rfl rfl rfl rfl rfl rfl (by omega) rfl (by rw [flat_len R.1, List.length_nil]; omega) fun a0 h1a E1a ha0 => ?_
 refine wp_norm [_] rfl ?_
 refine op_pure (pv_assign (v := .slice _ _ _) rfl) ?_
 refine xp_ret ?_
 refine res_list (vs := [_]) Try.results56 ⟨resV_tmp rfl rfl, trivial⟩ fun V => ?_
 exact ⟨(Ext.trans E1a (ext_wl V)), AccP.row (i := 0) ha0 (by omega) (fun _ _ => rfl) V rfl⟩
theorem CopyHand_ok (a : HandP) (HA OA : Option Addr) (cH cO : Nat) (h : AH) (RH : HandR h HA OA a) (h1 : a.buttons.length < 2 ^ 20) (h2 : a.on.length < 2 ^ 20) :
  FnT Try.prog 33 #[handV HA OA cH cO a] h (fun v h' => HandV h' a v) := by
 refine call_body Try.func33 rfl Try.ntmps33 rfl ?_
 refine xp_seq ?_
 refine xp_region rfl ?_
 refine op_box (v := .agg #[.slice _ _ _, .slice _ _ _]) (cs := [_, _]) rfl rfl fun b1 hb1 => ?_
 refine wp_norm [_] rfl ?_
 refine op_alloc (cs := [_, _]) rfl rfl fun b2 hb2 => ?_
 refine wp_norm [_, _] rfl ?_
 refine xp_seq ?_
 refine xp_dw [] rfl rfl rfl ?_
 refine dw_pure (i := 0) rfl (by decide +kernel) (pv_fieldAddr rfl rfl rfl rfl 0 rfl) ?_
 refine dw_load (i := 1) rfl (by decide +kernel) ?_
 refine op_loadP 0 (v := .slice _ _ _) rfl rfl rfl rfl ?_
 refine dw_pure (i := 3) rfl (by decide +kernel) (pv_fieldAddr rfl rfl rfl rfl 1 rfl) ?_
 refine dw_load (i := 4) rfl (by decide +kernel) ?_
 refine op_loadP 0 (v := .slice _ _ _) rfl rfl rfl rfl ?_
 refine dw_eff (i := 2) rfl (by decide +kernel) ?_
 refine op_fn (caps := []) (vs := [.slice _ _ _]) rfl rfl rfl (Ints_ok a.buttons HA cH h (RH.b.ext (Ext.refl _)) h1) ?_
 rintro _ h3 E13 ⟨A3, c3, rfl, R3⟩
 refine ⟨ext_wlm E13 _, ?_⟩
 refine dw_last (i := 5) rfl (by decide +kernel) (by decide +kernel) ?_
 refine op_fn (caps := []) (vs := [.slice _ _ _]) rfl rfl rfl (Ints_ok a.on OA cO h3 (RH.o.ext E13) h2) ?_
 rintro _ h4 E4 ⟨A4, c4, rfl, R4⟩
 refine dw_pure (i := 6) rfl (by decide +kernel) (pv_build (zc := [_, _]) (vs := [(0, .slice _ _ _), (1, .slice _ _ _)]) (cs := [_, _]) rfl rfl rfl rfl rfl rfl) ?_
 refine dw_last (i := 7) rfl (by decide +kernel) (by decide +kernel) ?_
 refine op_storeP 1 (v := .agg #[.slice _ _ _, .slice _ _ _]) (vs := [_, _]) (c' := [_, _]) rfl rfl rfl rfl rfl rfl rfl rfl rfl ?_
 refine dw_norm [_, _] rfl ?_
 refine dw_end rfl ?_
 refine xp_ret ?_
 refine res_list (vs := [_]) Try.results33 ⟨resV_agg 1 rfl rfl rfl rfl rfl (vs := [.slice _ _ _, .slice _ _ _]) rfl, trivial⟩ fun V => ?_
 exact ⟨(Ext.trans (Ext.trans E13 E4) (ext_wl V)), _, _, rfl, ⟨A3, c3, rfl, (R3.ext E4).ext (ext_wl V)⟩, ⟨A4, c4, rfl, R4.ext (ext_wl V)⟩⟩
end
end Go.Proofs.Ythphpbdmbmiaiaa
/- Plain facts of package rod: the reference's sweeps at any depth. Conditions: as each theorem states. -/
namespace Go.Rd
open Go Go.HL Go.Wx
variable [Lvl]
end Go.Rd
/- Walks of the reference: Turns, Lifts, Sounds, Force of any machine and hand; copies, equal machines. Conditions: as each theorem states. -/
namespace Go.Proofs.Ythphpbdmbmiaiaa
open Go Go.HL Go.Proofs Go.Wx Go.Rd
section
variable [Lvl]
set_option maxRecDepth 100000
/-- A machine with lists of some length. -/
structure Sml (m : MachP) : Prop where
 b : m.buttons.length < 2 ^ 20
 q : m.pins.length < 2 ^ 20
 l : m.links.length < 2 ^ 20
 w : m.weights.length < 2 ^ 20
structure SmlH (a : HandP) : Prop where
 b : a.buttons.length < 2 ^ 20
 o : a.on.length < 2 ^ 20
theorem CheckS_ok (m : MachP) (S : Sml m) (AB AQ AL AW : Option Addr) (cB cQ cL cW : Nat) (h : AH) (R : MachR h AB AQ AL AW m) :
  FnT Try.prog 39 #[machV AB AQ AL AW cB cQ cL cW m] h (fun v _ => v = .int .i64 (chkM m)) :=
 CheckG_ok m AB AQ AL AW cB cQ cL cW h R (Nat.lt_trans S.w (by decide)) (Nat.lt_trans S.b (by decide)) (Nat.lt_trans S.q (by decide)) (Nat.lt_trans S.l (by decide))
end
end Go.Proofs.Ythphpbdmbmiaiaa
/- Walks: copies of machines, equal machines; the reference's Force; lists that are too long. Conditions: as each theorem states. -/
namespace Go.Proofs.Ythphpbdmbmiaiaa
open Go Go.HL Go.Proofs Go.Wx Go.Rd
section
variable [Lvl]
set_option maxRecDepth 100000
/-- A machine's cells. -/
abbrev machC (AB AQ AL AW : Option Addr) (cB cQ cL cW : Nat) (m : MachP) : List Value := [.int .i64 m.rods, .int .i64 m.levers, .int .i64 m.regs, .int .i64 m.travel, .int .i64 m.opn, .slice AB m.buttons.length cB, .slice AQ m.pins.length cQ, .slice AL m.links.length cL, .slice AW m.weights.length cW]
/-- Machines as elements: pins and links have room. -/
def TMa (h : AH) (m : MachP) (c : List Value) : Prop := ∃ AB AQ AL AW cB cQ cL cW, c = machC AB AQ AL AW cB cQ cL cW m ∧ MachR h AB AQ AL AW m ∧ m.pins.length ≤ cQ ∧ m.links.length ≤ cL
theorem TMa.mono : Mono TMa := fun h h' m c e ⟨AB, AQ, AL, AW, cB, cQ, cL, cW, hc, r, s⟩ => ⟨AB, AQ, AL, AW, cB, cQ, cL, cW, hc, r.ext e, s⟩
theorem CopyMachine_ok (m : MachP) (S : Sml m) (AB AQ AL AW : Option Addr) (cB cQ cL cW : Nat) (h : AH) (R : MachR h AB AQ AL AW m) :
  FnT Try.prog 20 #[machV AB AQ AL AW cB cQ cL cW m] h (fun v h' => ∃ AB AQ AL AW cB cQ cL cW, v = machV AB AQ AL AW cB cQ cL cW m ∧ MachR h' AB AQ AL AW m) := by
 have s1 := S.b
 have s2 := S.q
 have s3 := S.l
 have s4 := S.w
 refine call_body Try.func20 rfl Try.ntmps20 rfl ?_
 refine xp_seq ?_
 refine xp_region rfl ?_
 refine op_box (v := .agg #[.int .i64 _, .int .i64 _, .int .i64 _, .int .i64 _, .int .i64 _, .slice _ _ _, .slice _ _ _, .slice _ _ _, .slice _ _ _]) (cs := [_, _, _, _, _, _, _, _, _]) rfl rfl fun b1 hb1 => ?_
 refine wp_norm [_] rfl ?_
 refine op_alloc (cs := [_, _, _, _, _, _, _, _, _]) rfl rfl fun b2 hb2 => ?_
 refine wp_norm [_, _] rfl ?_
 refine xp_seq ?_
 refine xp_dw [] rfl rfl rfl ?_
 refine dw_pure (i := 0) rfl (by decide +kernel) (pv_fieldAddr rfl rfl rfl rfl 5 rfl) ?_
 refine dw_load (i := 1) rfl (by decide +kernel) ?_
 refine op_loadP 0 (v := .slice _ _ _) rfl rfl rfl rfl ?_
 refine dw_pure (i := 3) rfl (by decide +kernel) (pv_fieldAddr rfl rfl rfl rfl 8 rfl) ?_
 refine dw_load (i := 4) rfl (by decide +kernel) ?_
 refine op_loadP 0 (v := .slice _ _ _) rfl rfl rfl rfl ?_
 refine dw_eff (i := 2) rfl (by decide +kernel) ?_
 refine op_fn (caps := []) (vs := [.slice _ _ _]) rfl rfl rfl (Ints_ok m.buttons AB cB h (R.b.ext (Ext.refl _)) s1) ?_
 rintro _ g0 G0 ⟨A1, c1, rfl, R1⟩
 refine ⟨ext_wlm G0 _, ?_⟩
 refine dw_pure (i := 6) rfl (by decide +kernel) (pv_fieldAddr rfl rfl rfl rfl 5 rfl) ?_
 refine dw_last (i := 5) rfl (by decide +kernel) (by decide +kernel) ?_
 refine op_fn (caps := []) (vs := [.slice _ _ _]) rfl rfl rfl (Ints_ok m.weights AW cW g0 (R.w.ext G0) s4) ?_
 rintro _ g1 G1 ⟨A4, c4, rfl, R4⟩
 refine dw_last (i := 7) rfl (by decide +kernel) (by decide +kernel) ?_
 refine op_storeP 0 (v := .slice _ _ _) (vs := [_]) (c' := [_, _, _, _, _, _, _, _, _]) rfl rfl rfl rfl rfl rfl rfl rfl rfl ?_
 refine dw_norm [_, _] rfl ?_
 refine dw_pure (i := 8) rfl (by decide +kernel) (pv_fieldAddr rfl rfl rfl rfl 8 rfl) ?_
 refine dw_last (i := 9) rfl (by decide +kernel) (by decide +kernel) ?_
 refine op_storeP 0 (v := .slice _ _ _) (vs := [_]) (c' := [_, _, _, _, _, _, _, _, _]) rfl rfl rfl rfl rfl rfl rfl rfl rfl ?_
 refine dw_norm [_, _] rfl ?_
 refine dw_end rfl ?_
 refine xp_seq ?_
 refine xp_dw [false, false, true, true] rfl rfl rfl ?_
 refine dw_pure (i := 1) rfl (by decide +kernel) (pv_fieldAddr rfl rfl rfl rfl 6 rfl) ?_
 refine dw_load (i := 2) rfl (by decide +kernel) ?_
 refine op_loadP 0 (v := .slice _ _ _) rfl rfl rfl rfl ?_
 refine dw_pure (i := 5) rfl (by decide +kernel) (pv_fieldAddr rfl rfl rfl rfl 7 rfl) ?_
 refine dw_load (i := 6) rfl (by decide +kernel) ?_
 refine op_loadP 0 (v := .slice _ _ _) rfl rfl rfl rfl ?_
 refine dw_eff (i := 0) rfl (by decide +kernel) ?_
 refine op_buildSlice (zc := [_, _, _]) (vs := []) (cs := []) rfl rfl rfl rfl rfl rfl rfl fun b11 hb11 => ?_
 refine ⟨ext_newM hb11 _, ?_⟩
 refine dw_norm [_, _, _] rfl ?_
 refine dw_eff (i := 3) rfl (by decide +kernel) ?_
 refine op_appendR 2 accR_new rfl rfl rfl (fun V => R.q.2.ext (Ext.trans (Ext.trans G0 G1) (ext_wl V))) (flat_len R.q.1) (flat_plain pinP m.pins) rfl rfl rfl rfl rfl rfl rfl (by omega) rfl (by rw [flat_len R.q.1, List.length_nil]; omega) fun a2 h1a E1a ha2 => ?_
 refine ⟨ext_wlm E1a _, ?_⟩
 refine dw_norm [_, _, _] rfl ?_
 refine dw_pure (i := 8) rfl (by decide +kernel) (pv_fieldAddr rfl rfl rfl rfl 6 rfl) ?_
 refine dw_eff (i := 4) rfl (by decide +kernel) ?_
 refine op_buildSlice (zc := [_, _, _, _]) (vs := []) (cs := []) rfl rfl rfl rfl rfl rfl rfl fun b15 hb15 => ?_
 refine ⟨ext_newM hb15 _, ?_⟩
 refine dw_norm [_, _, _, _] rfl ?_
 refine dw_last (i := 7) rfl (by decide +kernel) (by decide +kernel) ?_
 refine op_appendR 3 accR_new rfl rfl rfl (fun V => R.l.2.ext (Ext.trans (Ext.trans (Ext.trans G0 G1) E1a) (ext_wl V))) (flat_len R.l.1) (flat_plain linkP m.links) rfl rfl rfl rfl rfl rfl rfl (by omega) rfl (by rw [flat_len R.l.1, List.length_nil]; omega) fun a3 h2a E2a ha3 => ?_
 refine dw_norm [_, _, _, _] rfl ?_
 refine dw_last (i := 9) rfl (by decide +kernel) (by decide +kernel) ?_
 refine op_storeP 0 (v := .slice _ _ _) (vs := [_]) (c' := [_, _, _, _, _, _, _, _, _]) rfl rfl rfl rfl rfl rfl rfl rfl rfl ?_
 refine dw_norm [_, _, _, _] rfl ?_
 refine dw_pure (i := 10) rfl (by decide +kernel) (pv_fieldAddr rfl rfl rfl rfl 7 rfl) ?_
 refine dw_last (i := 11) rfl (by decide +kernel) (by decide +kernel) ?_
 refine op_storeP 0 (v := .slice _ _ _) (vs := [_]) (c' := [_, _, _, _, _, _, _, _, _]) rfl rfl rfl rfl rfl rfl rfl rfl rfl ?_
 refine dw_norm [_, _, _, _] rfl ?_
 refine dw_end rfl ?_
 refine xp_seq ?_
 refine xp_region rfl ?_
 refine op_loadPA 0 (vs := [.int .i64 _, .int .i64 _, .int .i64 _, .int .i64 _, .int .i64 _, .slice _ _ _, .slice _ _ _, .slice _ _ _, .slice _ _ _]) rfl rfl rfl rfl rfl ?_
 refine op_storeP 1 (v := .agg #[.int .i64 _, .int .i64 _, .int .i64 _, .int .i64 _, .int .i64 _, .slice _ _ _, .slice _ _ _, .slice _ _ _, .slice _ _ _]) (vs := [_, _, _, _, _, _, _, _, _]) (c' := [_, _, _, _, _, _, _, _, _]) rfl rfl rfl rfl rfl rfl rfl rfl rfl ?_
 refine wp_norm [_, _, _, _] rfl ?_
 refine xp_ret ?_
 refine res_list (vs := [_]) Try.results20 ⟨resV_agg 1 rfl rfl rfl rfl rfl (vs := [.int .i64 _, .int .i64 _, .int .i64 _, .int .i64 _, .int .i64 _, .slice _ _ _, .slice _ _ _, .slice _ _ _, .slice _ _ _]) rfl, trivial⟩ fun V => ?_
 have n2 : a2.n = m.pins.length := by have := AccR.len ha2; rw [List.nil_append, flat_len (m := 3) (fun _ _ => rfl)] at this; omega
 have n3 : a3.n = m.links.length := by have := AccR.len ha3; rw [List.nil_append, flat_len (m := 4) (fun _ _ => rfl)] at this; omega
 refine ⟨(Ext.trans (Ext.trans (Ext.trans (Ext.trans G0 G1) E1a) E2a) (ext_wl V)), A1, a2.A, a3.A, A4, c1, a2.c, a3.c, c4, by rw [n2, n3]; rfl, ⟨(R1.ext (Ext.trans (Ext.trans G1 E1a) E2a)).ext (ext_wl V), row_acc (i := 2) ha2 (by omega) (fun _ _ => rfl) V rfl, row_acc (i := 3) ha3 (by omega) (fun _ _ => rfl) V rfl, (R4.ext (Ext.trans E1a E2a)).ext (ext_wl V)⟩⟩
theorem pinEq (a b : PinP) : pev Try.prog (Op.equalIn Op.maxDepth 36 (.agg (pinC a).toArray) (.agg (pinC b).toArray)) = some (decide (a.rod = b.rod ∧ a.lever = b.lever ∧ a.lag = b.lag)) := by
 have h1 := eq_struct (P := Try.prog) (t := 36) (d := 9999) (fs := [_, _, _]) (xs := (pinC a).toArray) (ys := (pinC b).toArray) (rs := [a.rod == b.rod, a.lever == b.lever, a.lag == b.lag]) rfl (by kernel_rfl) rfl ?_
 ·refine h1.trans ?_
  simp only [List.all_cons, List.all_nil, id, Bool.and_true, Option.some.injEq]
  rw [Bool.eq_iff_iff]
  simp
 ·intro i f r hf hr
  match i, hf, hr with
  | 0, hf, hr => cases hf; cases hr; exact ⟨by decide, _, _, rfl, rfl, eq_int rfl _ _⟩
  | 1, hf, hr => cases hf; cases hr; exact ⟨by decide, _, _, rfl, rfl, eq_int rfl _ _⟩
  | 2, hf, hr => cases hf; cases hr; exact ⟨by decide, _, _, rfl, rfl, eq_int rfl _ _⟩
  | i + 3, hf, hr => simp at hf
theorem linkEq (a b : LinkP) : pev Try.prog (Op.equalIn Op.maxDepth 39 (.agg (linkC a).toArray) (.agg (linkC b).toArray)) = some (decide (a.frm = b.frm ∧ a.to = b.to ∧ a.reg = b.reg ∧ a.lag = b.lag)) := by
 have h1 := eq_struct (P := Try.prog) (t := 39) (d := 9999) (fs := [_, _, _, _]) (xs := (linkC a).toArray) (ys := (linkC b).toArray) (rs := [a.frm == b.frm, a.to == b.to, a.reg == b.reg, a.lag == b.lag]) rfl (by kernel_rfl) rfl ?_
 ·refine h1.trans ?_
  simp only [List.all_cons, List.all_nil, id, Bool.and_true, Option.some.injEq]
  rw [Bool.eq_iff_iff]
  simp
 ·intro i f r hf hr
  match i, hf, hr with
  | 0, hf, hr => cases hf; cases hr; exact ⟨by decide, _, _, rfl, rfl, eq_int rfl _ _⟩
  | 1, hf, hr => cases hf; cases hr; exact ⟨by decide, _, _, rfl, rfl, eq_int rfl _ _⟩
  | 2, hf, hr => cases hf; cases hr; exact ⟨by decide, _, _, rfl, rfl, eq_int rfl _ _⟩
  | 3, hf, hr => cases hf; cases hr; exact ⟨by decide, _, _, rfl, rfl, eq_int rfl _ _⟩
  | i + 4, hf, hr => simp at hf
theorem pinSelf (a : PinP) : pev Try.prog (Op.equalIn Op.maxDepth 36 (.agg (pinC a).toArray) (.agg (pinC a).toArray)) = some true := by rw [pinEq]; simp
theorem linkSelf (a : LinkP) : pev Try.prog (Op.equalIn Op.maxDepth 39 (.agg (linkC a).toArray) (.agg (linkC a).toArray)) = some true := by rw [linkEq]; simp
theorem sameIntsS_ok (a : List Int) (A B : Option Addr) (ca cb : Nat) (h : AH) (Ra : Row h 1 intC A a) (Rb : Row h 1 intC B a) (ha : a.length < 2 ^ 40) :
  FnT Try.prog 40 #[.slice A a.length ca, .slice B a.length cb] h (fun v _ => v = .bool true) :=
 (sameInts_ok a a A B ca cb h Ra Rb ha).mono (fun v _ e => ⟨e.1, e.2.trans (boolE (decide_eq_true rfl))⟩) fun _ _ e => e
/-- Two copies of one machine are the same. -/
theorem SameMachines_ok (m : MachP) (S : Sml m) (AB AQ AL AW : Option Addr) (cB cQ cL cW : Nat) (AB' AQ' AL' AW' : Option Addr) (cB' cQ' cL' cW' : Nat) (h : AH) (R : MachR h AB AQ AL AW m) (R' : MachR h AB' AQ' AL' AW' m) :
  FnT Try.prog 41 #[machV AB AQ AL AW cB cQ cL cW m, machV AB' AQ' AL' AW' cB' cQ' cL' cW' m] h (fun v _ => v = .bool true) := by
 have s1 := S.b
 have s2 := S.q
 have s3 := S.l
 have s4 := S.w
 have q1 : (m.rods == m.rods) = true := by simp
 have q2 : (m.levers == m.levers) = true := by simp
 have q3 : (m.regs == m.regs) = true := by simp
 have q4 : (m.travel == m.travel) = true := by simp
 have q5 : (m.opn == m.opn) = true := by simp
 have q6 : ((m.pins.length : Int) == (m.pins.length : Int)) = true := by simp
 have q7 : ((m.links.length : Int) == (m.links.length : Int)) = true := by simp
 refine call_body Try.func41 rfl Try.ntmps41 rfl ?_
 refine xp_seq ?_
 refine xp_region rfl ?_
 refine op_box (v := .agg #[.int .i64 _, .int .i64 _, .int .i64 _, .int .i64 _, .int .i64 _, .slice _ _ _, .slice _ _ _, .slice _ _ _, .slice _ _ _]) (cs := [_, _, _, _, _, _, _, _, _]) rfl rfl fun b2 hb2 => ?_
 refine wp_norm [_] rfl ?_
 refine op_box (v := .agg #[.int .i64 _, .int .i64 _, .int .i64 _, .int .i64 _, .int .i64 _, .slice _ _ _, .slice _ _ _, .slice _ _ _, .slice _ _ _]) (cs := [_, _, _, _, _, _, _, _, _]) rfl rfl fun b3 hb3 => ?_
 refine wp_norm [_, _] rfl ?_
 refine op_pure (pv_assign (v := .bool _) rfl) ?_
 refine xp_seq ?_
 refine xp_region rfl ?_
 refine op_pure (pv_fieldAddr rfl rfl rfl rfl 0 rfl) ?_
 refine op_loadP 0 (v := .int .i64 _) rfl rfl rfl rfl ?_
 refine op_pure (pv_fieldAddr rfl rfl rfl rfl 0 rfl) ?_
 refine op_loadP 1 (v := .int .i64 _) rfl rfl rfl rfl ?_
 refine op_pure (pv_of (v := .bool _) rfl) ?_
 refine op_pure (pv_move (v := .bool _) rfl) ?_
 refine guard_yes rfl q1 ?_
 refine op_pure (pv_fieldAddr rfl rfl rfl rfl 1 rfl) ?_
 refine guard_yes rfl q1 ?_
 refine op_loadP 0 (v := .int .i64 _) rfl rfl rfl rfl ?_
 refine guard_yes rfl q1 ?_
 refine op_pure (pv_fieldAddr rfl rfl rfl rfl 1 rfl) ?_
 refine guard_yes rfl q1 ?_
 refine op_loadP 1 (v := .int .i64 _) rfl rfl rfl rfl ?_
 refine guard_yes rfl q1 ?_
 refine op_pure (pv_of (v := .bool _) rfl) ?_
 refine op_pure (pv_pickT rfl q1 (v := .bool _) rfl) ?_
 refine op_pure (pv_move (v := .bool _) rfl) ?_
 refine guard_yes rfl q2 ?_
 refine op_pure (pv_fieldAddr rfl rfl rfl rfl 2 rfl) ?_
 refine guard_yes rfl q2 ?_
 refine op_loadP 0 (v := .int .i64 _) rfl rfl rfl rfl ?_
 refine guard_yes rfl q2 ?_
 refine op_pure (pv_fieldAddr rfl rfl rfl rfl 2 rfl) ?_
 refine guard_yes rfl q2 ?_
 refine op_loadP 1 (v := .int .i64 _) rfl rfl rfl rfl ?_
 refine guard_yes rfl q2 ?_
 refine op_pure (pv_of (v := .bool _) rfl) ?_
 refine op_pure (pv_pickT rfl q2 (v := .bool _) rfl) ?_
 refine op_pure (pv_move (v := .bool _) rfl) ?_
 refine guard_yes rfl q3 ?_
 refine op_pure (pv_fieldAddr rfl rfl rfl rfl 3 rfl) ?_
 refine guard_yes rfl q3 ?_
 refine op_loadP 0 (v := .int .i64 _) rfl rfl rfl rfl ?_
 refine guard_yes rfl q3 ?_
 refine op_pure (pv_fieldAddr rfl rfl rfl rfl 3 rfl) ?_
 refine guard_yes rfl q3 ?_
 refine op_loadP 1 (v := .int .i64 _) rfl rfl rfl rfl ?_
 refine guard_yes rfl q3 ?_
 refine op_pure (pv_of (v := .bool _) rfl) ?_
 refine op_pure (pv_pickT rfl q3 (v := .bool _) rfl) ?_
 refine op_pure (pv_move (v := .bool _) rfl) ?_
 refine guard_yes rfl q4 ?_
 refine op_pure (pv_fieldAddr rfl rfl rfl rfl 4 rfl) ?_
 refine guard_yes rfl q4 ?_
 refine op_loadP 0 (v := .int .i64 _) rfl rfl rfl rfl ?_
 refine guard_yes rfl q4 ?_
 refine op_pure (pv_fieldAddr rfl rfl rfl rfl 4 rfl) ?_
 refine guard_yes rfl q4 ?_
 refine op_loadP 1 (v := .int .i64 _) rfl rfl rfl rfl ?_
 refine guard_yes rfl q4 ?_
 refine op_pure (pv_of (v := .bool _) rfl) ?_
 refine op_pure (pv_pickT rfl q4 (v := .bool _) rfl) ?_
 refine op_pure (pv_move (v := .bool _) rfl) ?_
 refine guard_yes rfl q5 ?_
 refine op_pure (pv_fieldAddr rfl rfl rfl rfl 5 rfl) ?_
 refine guard_yes rfl q5 ?_
 refine op_loadP 0 (v := .slice _ _ _) rfl rfl rfl rfl ?_
 refine guard_yes rfl q5 ?_
 refine op_pure (pv_fieldAddr rfl rfl rfl rfl 5 rfl) ?_
 refine guard_yes rfl q5 ?_
 refine op_loadP 1 (v := .slice _ _ _) rfl rfl rfl rfl ?_
 refine guard_yes rfl q5 ?_
 refine op_fn (caps := []) (vs := [.slice _ _ _, .slice _ _ _]) rfl rfl rfl (sameIntsS_ok m.buttons _ _ _ _ h (R.b.ext (Ext.refl _)) (R'.b.ext (Ext.refl _)) (by omega)) ?_
 rintro _ h3 E3 rfl
 refine op_pure (pv_pickT rfl q5 (v := .bool _) rfl) ?_
 refine op_pure (pv_move (v := .bool _) rfl) ?_
 refine guard_yes rfl rfl ?_
 refine op_pure (pv_fieldAddr rfl rfl rfl rfl 8 rfl) ?_
 refine guard_yes rfl rfl ?_
 refine op_loadP 0 (v := .slice _ _ _) rfl rfl rfl rfl ?_
 refine guard_yes rfl rfl ?_
 refine op_pure (pv_fieldAddr rfl rfl rfl rfl 8 rfl) ?_
 refine guard_yes rfl rfl ?_
 refine op_loadP 1 (v := .slice _ _ _) rfl rfl rfl rfl ?_
 refine guard_yes rfl rfl ?_
 refine op_fn (caps := []) (vs := [.slice _ _ _, .slice _ _ _]) rfl rfl rfl (sameIntsS_ok m.weights _ _ _ _ h3 (R.w.ext E3) (R'.w.ext E3) (by omega)) ?_
 rintro _ h4 E4 rfl
 refine op_pure (pv_pickT rfl rfl (v := .bool _) rfl) ?_
 refine op_pure (pv_move (v := .bool _) rfl) ?_
 refine guard_yes rfl rfl ?_
 refine op_pure (pv_fieldAddr rfl rfl rfl rfl 6 rfl) ?_
 refine guard_yes rfl rfl ?_
 refine op_loadP 0 (v := .slice _ _ _) rfl rfl rfl rfl ?_
 refine guard_yes rfl rfl ?_
 refine op_pure (pv_len rfl rfl) ?_
 refine guard_yes rfl rfl ?_
 refine op_pure (pv_fieldAddr rfl rfl rfl rfl 6 rfl) ?_
 refine guard_yes rfl rfl ?_
 refine op_loadP 1 (v := .slice _ _ _) rfl rfl rfl rfl ?_
 refine guard_yes rfl rfl ?_
 refine op_pure (pv_len rfl rfl) ?_
 refine guard_yes rfl rfl ?_
 refine op_pure (pv_of (v := .bool _) rfl) ?_
 refine op_pure (pv_pickT rfl rfl (v := .bool _) rfl) ?_
 refine op_pure (pv_move (v := .bool _) rfl) ?_
 refine guard_yes rfl q6 ?_
 refine op_pure (pv_fieldAddr rfl rfl rfl rfl 7 rfl) ?_
 refine guard_yes rfl q6 ?_
 refine op_loadP 0 (v := .slice _ _ _) rfl rfl rfl rfl ?_
 refine guard_yes rfl q6 ?_
 refine op_pure (pv_len rfl rfl) ?_
 refine guard_yes rfl q6 ?_
 refine op_pure (pv_fieldAddr rfl rfl rfl rfl 7 rfl) ?_
 refine guard_yes rfl q6 ?_
 refine op_loadP 1 (v := .slice _ _ _) rfl rfl rfl rfl ?_
 refine guard_yes rfl q6 ?_
 refine op_pure (pv_len rfl rfl) ?_
 refine guard_yes rfl q6 ?_
 refine op_pure (pv_of (v := .bool _) rfl) ?_
 refine op_pure (pv_pickT rfl q6 (v := .bool _) rfl) ?_
 refine op_pure (pv_assign (v := .bool _) rfl) ?_
 refine xp_seq ?_
 refine xp_seq ?_
 refine xp_region rfl ?_
 refine op_pure (pv_assign (v := .int .i64 _) rfl) ?_
 refine xp_block ?_
 refine xp_loopB [5, 6, 73, 74, 75, 76, 77, 78, 79, 80, 81, 82, 83, 84, 85, 86, 87, 88, 89, 90, 91, 92, 93] 2 (α := Nat) (fun k => [(5, .bool true), (6, .int .i64 k)]) (fun k => _) (fun k h_k => k ≤ m.pins.length) (fun k => m.pins.length - k) (0) ⟨boolE q7, rfl, trivial⟩ (rfl) (Nat.zero_le _) ?_
 rintro k T1 h_k E_k J_k
 refine goes_norm [_, _] rfl ?_
 refine xp_seq ?_
 refine xp_seq ?_
 refine xp_region rfl ?_
 refine op_pure (pv_move (v := .bool _) rfl) ?_
 refine op_pure (pv_move (v := .bool _) rfl) ?_
 refine guard_yes rfl rfl ?_
 refine op_pure (pv_move (v := .int .i64 _) rfl) ?_
 refine guard_yes rfl rfl ?_
 refine op_pure (pv_fieldAddr rfl rfl rfl rfl 6 rfl) ?_
 refine guard_yes rfl rfl ?_
 refine op_loadP 0 (v := .slice _ _ _) rfl rfl rfl rfl ?_
 refine guard_yes rfl rfl ?_
 refine op_pure (pv_len rfl rfl) ?_
 refine guard_yes rfl rfl ?_
 refine op_pure (pv_of (v := .bool _) rfl) ?_
 refine op_pure (pv_pickT rfl rfl (v := .bool _) rfl) ?_
 refine xp_cond rfl (fun ht => ?_) (fun ht => ?_)
 ·skip
  have hkl : k < m.pins.length := ltI ht
  obtain ⟨g, off, hA, hc⟩ := (R.q.ext (Ext.trans (Ext.trans E3 E4) E_k)).at (by omega) hkl
  obtain ⟨g2, off2, hB, hd⟩ := (R'.q.ext (Ext.trans (Ext.trans E3 E4) E_k)).at (by omega) hkl
  refine xp_skip ?_
  refine xp_seq ?_
  refine xp_block ?_
  refine xp_dw [] rfl rfl rfl ?_
  refine dw_pure (i := 0) rfl (by decide +kernel) (pv_fieldAddr rfl rfl rfl rfl 6 rfl) ?_
  refine dw_load (i := 1) rfl (by decide +kernel) ?_
  refine op_loadP 0 (v := .slice _ _ _) rfl rfl rfl rfl ?_
  refine dw_pure (i := 2) rfl (by decide +kernel) (pv_move (v := .int .i64 _) rfl) ?_
  refine dw_pure (i := 3) rfl (by decide +kernel) (pv_indexE rfl hA rfl rfl rfl (by omega) (by omega)) ?_
  refine dw_load (i := 4) rfl (by decide +kernel) ?_
  refine op_loadA rfl rfl rfl rfl (hc) ?_
  refine dw_pure (i := 5) rfl (by decide +kernel) (pv_fieldAddr rfl rfl rfl rfl 6 rfl) ?_
  refine dw_load (i := 6) rfl (by decide +kernel) ?_
  refine op_loadP 1 (v := .slice _ _ _) rfl rfl rfl rfl ?_
  refine dw_pure (i := 7) rfl (by decide +kernel) (pv_move (v := .int .i64 _) rfl) ?_
  refine dw_pure (i := 8) rfl (by decide +kernel) (pv_indexE rfl hB rfl rfl rfl (by omega) (by omega)) ?_
  refine dw_load (i := 9) rfl (by decide +kernel) ?_
  refine op_loadA rfl rfl rfl rfl (hd) ?_
  refine dw_pure (i := 10) rfl (by decide +kernel) (pv_eqA rfl rfl (by kernel_rfl) (pinSelf _)) ?_
  refine dw_pure (i := 11) rfl (by decide +kernel) (pv_assign (v := .bool _) rfl) ?_
  refine dw_end rfl ?_
  refine xp_region rfl ?_
  refine op_pure (pv_move (v := .int .i64 _) rfl) ?_
  refine op_pure (pv_arith rfl (by omega)) ?_
  refine op_pure (pv_assign (v := .int .i64 _) rfl) ?_
  refine ⟨k + 1, ⟨rfl, rfl, trivial⟩, rfl, rfl, E_k, fun h3 E3 => hkl, by first | omega | (dsimp only; omega), ?_⟩
  repeat (first | exact off_base _ _ _ | refine off_upd (by decide) ?_ | refine off_updL rfl ?_ | refine off_mix rfl ?_)
 ·skip
  have hke : k = m.pins.length := by have := geI ht; omega
  subst hke
  refine xp_exit ?_
  refine xp_seq ?_
  refine xp_seq ?_
  refine xp_region rfl ?_
  refine op_pure (pv_assign (v := .int .i64 _) rfl) ?_
  refine xp_block ?_
  refine xp_loopB [5, 7, 94, 95, 96, 97, 98, 99, 100, 101, 102, 103, 104, 105, 106, 107, 108, 109, 110, 111, 112, 113, 114] 2 (α := Nat) (fun j => [(5, .bool true), (7, .int .i64 j)]) (fun j => _) (fun j h_j => j ≤ m.links.length) (fun j => m.links.length - j) (0) ⟨rfl, rfl, trivial⟩ (rfl) (Nat.zero_le _) ?_
  rintro j T2 h_j E_j J_j
  refine goes_norm [_, _] rfl ?_
  refine xp_seq ?_
  refine xp_seq ?_
  refine xp_region rfl ?_
  refine op_pure (pv_move (v := .bool _) rfl) ?_
  refine op_pure (pv_move (v := .bool _) rfl) ?_
  refine guard_yes rfl rfl ?_
  refine op_pure (pv_move (v := .int .i64 _) rfl) ?_
  refine guard_yes rfl rfl ?_
  refine op_pure (pv_fieldAddr rfl rfl rfl rfl 7 rfl) ?_
  refine guard_yes rfl rfl ?_
  refine op_loadP 0 (v := .slice _ _ _) rfl rfl rfl rfl ?_
  refine guard_yes rfl rfl ?_
  refine op_pure (pv_len rfl rfl) ?_
  refine guard_yes rfl rfl ?_
  refine op_pure (pv_of (v := .bool _) rfl) ?_
  refine op_pure (pv_pickT rfl rfl (v := .bool _) rfl) ?_
  refine xp_cond rfl (fun hj => ?_) (fun hj => ?_)
  ·skip
   have hkl : j < m.links.length := ltI hj
   obtain ⟨g, off, hA, hc⟩ := (R.l.ext (Ext.trans (Ext.trans (Ext.trans E3 E4) E_k) E_j)).at (by omega) hkl
   obtain ⟨g2, off2, hB, hd⟩ := (R'.l.ext (Ext.trans (Ext.trans (Ext.trans E3 E4) E_k) E_j)).at (by omega) hkl
   refine xp_skip ?_
   refine xp_seq ?_
   refine xp_block ?_
   refine xp_dw [] rfl rfl rfl ?_
   refine dw_pure (i := 0) rfl (by decide +kernel) (pv_fieldAddr rfl rfl rfl rfl 7 rfl) ?_
   refine dw_load (i := 1) rfl (by decide +kernel) ?_
   refine op_loadP 0 (v := .slice _ _ _) rfl rfl rfl rfl ?_
   refine dw_pure (i := 2) rfl (by decide +kernel) (pv_move (v := .int .i64 _) rfl) ?_
   refine dw_pure (i := 3) rfl (by decide +kernel) (pv_indexE rfl hA rfl rfl rfl (by omega) (by omega)) ?_
   refine dw_load (i := 4) rfl (by decide +kernel) ?_
   refine op_loadA rfl rfl rfl rfl (hc) ?_
   refine dw_pure (i := 5) rfl (by decide +kernel) (pv_fieldAddr rfl rfl rfl rfl 7 rfl) ?_
   refine dw_load (i := 6) rfl (by decide +kernel) ?_
   refine op_loadP 1 (v := .slice _ _ _) rfl rfl rfl rfl ?_
   refine dw_pure (i := 7) rfl (by decide +kernel) (pv_move (v := .int .i64 _) rfl) ?_
   refine dw_pure (i := 8) rfl (by decide +kernel) (pv_indexE rfl hB rfl rfl rfl (by omega) (by omega)) ?_
   refine dw_load (i := 9) rfl (by decide +kernel) ?_
   refine op_loadA rfl rfl rfl rfl (hd) ?_
   refine dw_pure (i := 10) rfl (by decide +kernel) (pv_eqA rfl rfl (by kernel_rfl) (linkSelf _)) ?_
   refine dw_pure (i := 11) rfl (by decide +kernel) (pv_assign (v := .bool _) rfl) ?_
   refine dw_end rfl ?_
   refine xp_region rfl ?_
   refine op_pure (pv_move (v := .int .i64 _) rfl) ?_
   refine op_pure (pv_arith rfl (by omega)) ?_
   refine op_pure (pv_assign (v := .int .i64 _) rfl) ?_
   refine ⟨j + 1, ⟨rfl, rfl, trivial⟩, rfl, rfl, E_j, fun h3 E3 => hkl, by first | omega | (dsimp only; omega), ?_⟩
   repeat (first | exact off_base _ _ _ | refine off_upd (by decide) ?_ | refine off_updL rfl ?_ | refine off_mix rfl ?_)
  ·skip
   refine xp_exit ?_
   refine xp_seq ?_
   refine xp_region rfl ?_
   refine op_pure (pv_move (v := .bool _) rfl) ?_
   refine op_pure (pv_assign (v := .bool _) rfl) ?_
   refine xp_ret ?_
   refine res_list (vs := [_]) Try.results41 ⟨resV_tmp rfl rfl, trivial⟩ fun V => ?_
   exact ⟨(Ext.trans (Ext.trans (Ext.trans (Ext.trans E3 E4) E_k) E_j) (ext_wl V)), rfl⟩
def largeB (m : MachP) (a : HandP) : Bool := decide ((m.buttons.length : Int) > 20) || decide ((m.pins.length : Int) > 20) || decide ((m.links.length : Int) > 20) || decide ((m.weights.length : Int) > 20) || decide ((a.buttons.length : Int) > 20) || decide ((a.on.length : Int) > 20)
theorem large_ok (m : MachP) (a : HandP) (AB AQ AL AW HA OA : Option Addr) (cB cQ cL cW cH cO : Nat) (h : AH) :
  FnT Try.prog 32 #[machV AB AQ AL AW cB cQ cL cW m, handV HA OA cH cO a] h (fun v _ => v = .bool (largeB m a)) := by
 refine call_body Try.func32 rfl Try.ntmps32 rfl ?_
 refine xp_seq ?_
 refine xp_region rfl ?_
 refine op_box (v := .agg #[.int .i64 _, .int .i64 _, .int .i64 _, .int .i64 _, .int .i64 _, .slice _ _ _, .slice _ _ _, .slice _ _ _, .slice _ _ _]) (cs := [_, _, _, _, _, _, _, _, _]) rfl rfl fun b2 hb2 => ?_
 refine wp_norm [_] rfl ?_
 refine op_box (v := .agg #[.slice _ _ _, .slice _ _ _]) (cs := [_, _]) rfl rfl fun b3 hb3 => ?_
 refine wp_norm [_, _] rfl ?_
 refine op_pure (pv_assign (v := .bool _) rfl) ?_
 rcases Bool.eq_false_or_eq_true (decide ((m.buttons.length : Int) > 20)) with e0 | e0
 ·skip
  refine xp_seq ?_
  refine xp_region rfl ?_
  refine op_pure (pv_fieldAddr rfl rfl rfl rfl 5 rfl) ?_
  refine op_loadP 0 (v := .slice _ _ _) rfl rfl rfl rfl ?_
  refine op_pure (pv_len rfl rfl) ?_
  refine op_pure (pv_of (v := .bool _) rfl) ?_
  refine op_pure (pv_move (v := .bool _) rfl) ?_
  refine guard_no rfl e0 ?_
  refine guard_no rfl e0 ?_
  refine guard_no rfl e0 ?_
  refine guard_no rfl e0 ?_
  refine op_pure (pv_pickT rfl e0 (v := .bool _) rfl) ?_
  refine op_pure (pv_move (v := .bool _) rfl) ?_
  refine guard_no rfl rfl ?_
  refine guard_no rfl rfl ?_
  refine guard_no rfl rfl ?_
  refine guard_no rfl rfl ?_
  refine op_pure (pv_pickT rfl rfl (v := .bool _) rfl) ?_
  refine op_pure (pv_move (v := .bool _) rfl) ?_
  refine guard_no rfl rfl ?_
  refine guard_no rfl rfl ?_
  refine guard_no rfl rfl ?_
  refine guard_no rfl rfl ?_
  refine op_pure (pv_pickT rfl rfl (v := .bool _) rfl) ?_
  refine op_pure (pv_move (v := .bool _) rfl) ?_
  refine guard_no rfl rfl ?_
  refine guard_no rfl rfl ?_
  refine guard_no rfl rfl ?_
  refine guard_no rfl rfl ?_
  refine op_pure (pv_pickT rfl rfl (v := .bool _) rfl) ?_
  refine op_pure (pv_move (v := .bool _) rfl) ?_
  refine guard_no rfl rfl ?_
  refine guard_no rfl rfl ?_
  refine guard_no rfl rfl ?_
  refine guard_no rfl rfl ?_
  refine op_pure (pv_pickT rfl rfl (v := .bool _) rfl) ?_
  refine op_pure (pv_assign (v := .bool _) rfl) ?_
  refine xp_ret ?_
  refine res_list (vs := [_]) Try.results32 ⟨resV_tmp rfl rfl, trivial⟩ fun V => ?_
  exact ⟨(ext_wl V), boolE (by rw [largeB, e0]; simp)⟩
 ·skip
  rcases Bool.eq_false_or_eq_true (decide ((m.pins.length : Int) > 20)) with e1 | e1
  ·skip
   refine xp_seq ?_
   refine xp_region rfl ?_
   refine op_pure (pv_fieldAddr rfl rfl rfl rfl 5 rfl) ?_
   refine op_loadP 0 (v := .slice _ _ _) rfl rfl rfl rfl ?_
   refine op_pure (pv_len rfl rfl) ?_
   refine op_pure (pv_of (v := .bool _) rfl) ?_
   refine op_pure (pv_move (v := .bool _) rfl) ?_
   refine guard_yes rfl e0 ?_
   refine op_pure (pv_fieldAddr rfl rfl rfl rfl 6 rfl) ?_
   refine guard_yes rfl e0 ?_
   refine op_loadP 0 (v := .slice _ _ _) rfl rfl rfl rfl ?_
   refine guard_yes rfl e0 ?_
   refine op_pure (pv_len rfl rfl) ?_
   refine guard_yes rfl e0 ?_
   refine op_pure (pv_of (v := .bool _) rfl) ?_
   refine op_pure (pv_pickF rfl e0 (v := .bool _) rfl) ?_
   refine op_pure (pv_move (v := .bool _) rfl) ?_
   refine guard_no rfl e1 ?_
   refine guard_no rfl e1 ?_
   refine guard_no rfl e1 ?_
   refine guard_no rfl e1 ?_
   refine op_pure (pv_pickT rfl e1 (v := .bool _) rfl) ?_
   refine op_pure (pv_move (v := .bool _) rfl) ?_
   refine guard_no rfl rfl ?_
   refine guard_no rfl rfl ?_
   refine guard_no rfl rfl ?_
   refine guard_no rfl rfl ?_
   refine op_pure (pv_pickT rfl rfl (v := .bool _) rfl) ?_
   refine op_pure (pv_move (v := .bool _) rfl) ?_
   refine guard_no rfl rfl ?_
   refine guard_no rfl rfl ?_
   refine guard_no rfl rfl ?_
   refine guard_no rfl rfl ?_
   refine op_pure (pv_pickT rfl rfl (v := .bool _) rfl) ?_
   refine op_pure (pv_move (v := .bool _) rfl) ?_
   refine guard_no rfl rfl ?_
   refine guard_no rfl rfl ?_
   refine guard_no rfl rfl ?_
   refine guard_no rfl rfl ?_
   refine op_pure (pv_pickT rfl rfl (v := .bool _) rfl) ?_
   refine op_pure (pv_assign (v := .bool _) rfl) ?_
   refine xp_ret ?_
   refine res_list (vs := [_]) Try.results32 ⟨resV_tmp rfl rfl, trivial⟩ fun V => ?_
   exact ⟨(ext_wl V), boolE (by rw [largeB, e0, e1]; simp)⟩
  ·skip
   rcases Bool.eq_false_or_eq_true (decide ((m.links.length : Int) > 20)) with e2 | e2
   ·skip
    refine xp_seq ?_
    refine xp_region rfl ?_
    refine op_pure (pv_fieldAddr rfl rfl rfl rfl 5 rfl) ?_
    refine op_loadP 0 (v := .slice _ _ _) rfl rfl rfl rfl ?_
    refine op_pure (pv_len rfl rfl) ?_
    refine op_pure (pv_of (v := .bool _) rfl) ?_
    refine op_pure (pv_move (v := .bool _) rfl) ?_
    refine guard_yes rfl e0 ?_
    refine op_pure (pv_fieldAddr rfl rfl rfl rfl 6 rfl) ?_
    refine guard_yes rfl e0 ?_
    refine op_loadP 0 (v := .slice _ _ _) rfl rfl rfl rfl ?_
    refine guard_yes rfl e0 ?_
    refine op_pure (pv_len rfl rfl) ?_
    refine guard_yes rfl e0 ?_
    refine op_pure (pv_of (v := .bool _) rfl) ?_
    refine op_pure (pv_pickF rfl e0 (v := .bool _) rfl) ?_
    refine op_pure (pv_move (v := .bool _) rfl) ?_
    refine guard_yes rfl e1 ?_
    refine op_pure (pv_fieldAddr rfl rfl rfl rfl 7 rfl) ?_
    refine guard_yes rfl e1 ?_
    refine op_loadP 0 (v := .slice _ _ _) rfl rfl rfl rfl ?_
    refine guard_yes rfl e1 ?_
    refine op_pure (pv_len rfl rfl) ?_
    refine guard_yes rfl e1 ?_
    refine op_pure (pv_of (v := .bool _) rfl) ?_
    refine op_pure (pv_pickF rfl e1 (v := .bool _) rfl) ?_
    refine op_pure (pv_move (v := .bool _) rfl) ?_
    refine guard_no rfl e2 ?_
    refine guard_no rfl e2 ?_
    refine guard_no rfl e2 ?_
    refine guard_no rfl e2 ?_
    refine op_pure (pv_pickT rfl e2 (v := .bool _) rfl) ?_
    refine op_pure (pv_move (v := .bool _) rfl) ?_
    refine guard_no rfl rfl ?_
    refine guard_no rfl rfl ?_
    refine guard_no rfl rfl ?_
    refine guard_no rfl rfl ?_
    refine op_pure (pv_pickT rfl rfl (v := .bool _) rfl) ?_
    refine op_pure (pv_move (v := .bool _) rfl) ?_
    refine guard_no rfl rfl ?_
    refine guard_no rfl rfl ?_
    refine guard_no rfl rfl ?_
    refine guard_no rfl rfl ?_
    refine op_pure (pv_pickT rfl rfl (v := .bool _) rfl) ?_
    refine op_pure (pv_assign (v := .bool _) rfl) ?_
    refine xp_ret ?_
    refine res_list (vs := [_]) Try.results32 ⟨resV_tmp rfl rfl, trivial⟩ fun V => ?_
    exact ⟨(ext_wl V), boolE (by rw [largeB, e0, e1, e2]; simp)⟩
   ·skip
    rcases Bool.eq_false_or_eq_true (decide ((m.weights.length : Int) > 20)) with e3 | e3
    ·skip
     refine xp_seq ?_
     refine xp_region rfl ?_
     refine op_pure (pv_fieldAddr rfl rfl rfl rfl 5 rfl) ?_
     refine op_loadP 0 (v := .slice _ _ _) rfl rfl rfl rfl ?_
     refine op_pure (pv_len rfl rfl) ?_
     refine op_pure (pv_of (v := .bool _) rfl) ?_
     refine op_pure (pv_move (v := .bool _) rfl) ?_
     refine guard_yes rfl e0 ?_
     refine op_pure (pv_fieldAddr rfl rfl rfl rfl 6 rfl) ?_
     refine guard_yes rfl e0 ?_
     refine op_loadP 0 (v := .slice _ _ _) rfl rfl rfl rfl ?_
     refine guard_yes rfl e0 ?_
     refine op_pure (pv_len rfl rfl) ?_
     refine guard_yes rfl e0 ?_
     refine op_pure (pv_of (v := .bool _) rfl) ?_
     refine op_pure (pv_pickF rfl e0 (v := .bool _) rfl) ?_
     refine op_pure (pv_move (v := .bool _) rfl) ?_
     refine guard_yes rfl e1 ?_
     refine op_pure (pv_fieldAddr rfl rfl rfl rfl 7 rfl) ?_
     refine guard_yes rfl e1 ?_
     refine op_loadP 0 (v := .slice _ _ _) rfl rfl rfl rfl ?_
     refine guard_yes rfl e1 ?_
     refine op_pure (pv_len rfl rfl) ?_
     refine guard_yes rfl e1 ?_
     refine op_pure (pv_of (v := .bool _) rfl) ?_
     refine op_pure (pv_pickF rfl e1 (v := .bool _) rfl) ?_
     refine op_pure (pv_move (v := .bool _) rfl) ?_
     refine guard_yes rfl e2 ?_
     refine op_pure (pv_fieldAddr rfl rfl rfl rfl 8 rfl) ?_
     refine guard_yes rfl e2 ?_
     refine op_loadP 0 (v := .slice _ _ _) rfl rfl rfl rfl ?_
     refine guard_yes rfl e2 ?_
     refine op_pure (pv_len rfl rfl) ?_
     refine guard_yes rfl e2 ?_
     refine op_pure (pv_of (v := .bool _) rfl) ?_
     refine op_pure (pv_pickF rfl e2 (v := .bool _) rfl) ?_
     refine op_pure (pv_move (v := .bool _) rfl) ?_
     refine guard_no rfl e3 ?_
     refine guard_no rfl e3 ?_
     refine guard_no rfl e3 ?_
     refine guard_no rfl e3 ?_
     refine op_pure (pv_pickT rfl e3 (v := .bool _) rfl) ?_
     refine op_pure (pv_move (v := .bool _) rfl) ?_
     refine guard_no rfl rfl ?_
     refine guard_no rfl rfl ?_
     refine guard_no rfl rfl ?_
     refine guard_no rfl rfl ?_
     refine op_pure (pv_pickT rfl rfl (v := .bool _) rfl) ?_
     refine op_pure (pv_assign (v := .bool _) rfl) ?_
     refine xp_ret ?_
     refine res_list (vs := [_]) Try.results32 ⟨resV_tmp rfl rfl, trivial⟩ fun V => ?_
     exact ⟨(ext_wl V), boolE (by rw [largeB, e0, e1, e2, e3]; simp)⟩
    ·skip
     rcases Bool.eq_false_or_eq_true (decide ((a.buttons.length : Int) > 20)) with e4 | e4
     ·skip
      refine xp_seq ?_
      refine xp_region rfl ?_
      refine op_pure (pv_fieldAddr rfl rfl rfl rfl 5 rfl) ?_
      refine op_loadP 0 (v := .slice _ _ _) rfl rfl rfl rfl ?_
      refine op_pure (pv_len rfl rfl) ?_
      refine op_pure (pv_of (v := .bool _) rfl) ?_
      refine op_pure (pv_move (v := .bool _) rfl) ?_
      refine guard_yes rfl e0 ?_
      refine op_pure (pv_fieldAddr rfl rfl rfl rfl 6 rfl) ?_
      refine guard_yes rfl e0 ?_
      refine op_loadP 0 (v := .slice _ _ _) rfl rfl rfl rfl ?_
      refine guard_yes rfl e0 ?_
      refine op_pure (pv_len rfl rfl) ?_
      refine guard_yes rfl e0 ?_
      refine op_pure (pv_of (v := .bool _) rfl) ?_
      refine op_pure (pv_pickF rfl e0 (v := .bool _) rfl) ?_
      refine op_pure (pv_move (v := .bool _) rfl) ?_
      refine guard_yes rfl e1 ?_
      refine op_pure (pv_fieldAddr rfl rfl rfl rfl 7 rfl) ?_
      refine guard_yes rfl e1 ?_
      refine op_loadP 0 (v := .slice _ _ _) rfl rfl rfl rfl ?_
      refine guard_yes rfl e1 ?_
      refine op_pure (pv_len rfl rfl) ?_
      refine guard_yes rfl e1 ?_
      refine op_pure (pv_of (v := .bool _) rfl) ?_
      refine op_pure (pv_pickF rfl e1 (v := .bool _) rfl) ?_
      refine op_pure (pv_move (v := .bool _) rfl) ?_
      refine guard_yes rfl e2 ?_
      refine op_pure (pv_fieldAddr rfl rfl rfl rfl 8 rfl) ?_
      refine guard_yes rfl e2 ?_
      refine op_loadP 0 (v := .slice _ _ _) rfl rfl rfl rfl ?_
      refine guard_yes rfl e2 ?_
      refine op_pure (pv_len rfl rfl) ?_
      refine guard_yes rfl e2 ?_
      refine op_pure (pv_of (v := .bool _) rfl) ?_
      refine op_pure (pv_pickF rfl e2 (v := .bool _) rfl) ?_
      refine op_pure (pv_move (v := .bool _) rfl) ?_
      refine guard_yes rfl e3 ?_
      refine op_pure (pv_fieldAddr rfl rfl rfl rfl 0 rfl) ?_
      refine guard_yes rfl e3 ?_
      refine op_loadP 1 (v := .slice _ _ _) rfl rfl rfl rfl ?_
      refine guard_yes rfl e3 ?_
      refine op_pure (pv_len rfl rfl) ?_
      refine guard_yes rfl e3 ?_
      refine op_pure (pv_of (v := .bool _) rfl) ?_
      refine op_pure (pv_pickF rfl e3 (v := .bool _) rfl) ?_
      refine op_pure (pv_move (v := .bool _) rfl) ?_
      refine guard_no rfl e4 ?_
      refine guard_no rfl e4 ?_
      refine guard_no rfl e4 ?_
      refine guard_no rfl e4 ?_
      refine op_pure (pv_pickT rfl e4 (v := .bool _) rfl) ?_
      refine op_pure (pv_assign (v := .bool _) rfl) ?_
      refine xp_ret ?_
      refine res_list (vs := [_]) Try.results32 ⟨resV_tmp rfl rfl, trivial⟩ fun V => ?_
      exact ⟨(ext_wl V), boolE (by rw [largeB, e0, e1, e2, e3, e4]; simp)⟩
     ·skip
      refine xp_seq ?_
      refine xp_region rfl ?_
      refine op_pure (pv_fieldAddr rfl rfl rfl rfl 5 rfl) ?_
      refine op_loadP 0 (v := .slice _ _ _) rfl rfl rfl rfl ?_
      refine op_pure (pv_len rfl rfl) ?_
      refine op_pure (pv_of (v := .bool _) rfl) ?_
      refine op_pure (pv_move (v := .bool _) rfl) ?_
      refine guard_yes rfl e0 ?_
      refine op_pure (pv_fieldAddr rfl rfl rfl rfl 6 rfl) ?_
      refine guard_yes rfl e0 ?_
      refine op_loadP 0 (v := .slice _ _ _) rfl rfl rfl rfl ?_
      refine guard_yes rfl e0 ?_
      refine op_pure (pv_len rfl rfl) ?_
      refine guard_yes rfl e0 ?_
      refine op_pure (pv_of (v := .bool _) rfl) ?_
      refine op_pure (pv_pickF rfl e0 (v := .bool _) rfl) ?_
      refine op_pure (pv_move (v := .bool _) rfl) ?_
      refine guard_yes rfl e1 ?_
      refine op_pure (pv_fieldAddr rfl rfl rfl rfl 7 rfl) ?_
      refine guard_yes rfl e1 ?_
      refine op_loadP 0 (v := .slice _ _ _) rfl rfl rfl rfl ?_
      refine guard_yes rfl e1 ?_
      refine op_pure (pv_len rfl rfl) ?_
      refine guard_yes rfl e1 ?_
      refine op_pure (pv_of (v := .bool _) rfl) ?_
      refine op_pure (pv_pickF rfl e1 (v := .bool _) rfl) ?_
      refine op_pure (pv_move (v := .bool _) rfl) ?_
      refine guard_yes rfl e2 ?_
      refine op_pure (pv_fieldAddr rfl rfl rfl rfl 8 rfl) ?_
      refine guard_yes rfl e2 ?_
      refine op_loadP 0 (v := .slice _ _ _) rfl rfl rfl rfl ?_
      refine guard_yes rfl e2 ?_
      refine op_pure (pv_len rfl rfl) ?_
      refine guard_yes rfl e2 ?_
      refine op_pure (pv_of (v := .bool _) rfl) ?_
      refine op_pure (pv_pickF rfl e2 (v := .bool _) rfl) ?_
      refine op_pure (pv_move (v := .bool _) rfl) ?_
      refine guard_yes rfl e3 ?_
      refine op_pure (pv_fieldAddr rfl rfl rfl rfl 0 rfl) ?_
      refine guard_yes rfl e3 ?_
      refine op_loadP 1 (v := .slice _ _ _) rfl rfl rfl rfl ?_
      refine guard_yes rfl e3 ?_
      refine op_pure (pv_len rfl rfl) ?_
      refine guard_yes rfl e3 ?_
      refine op_pure (pv_of (v := .bool _) rfl) ?_
      refine op_pure (pv_pickF rfl e3 (v := .bool _) rfl) ?_
      refine op_pure (pv_move (v := .bool _) rfl) ?_
      refine guard_yes rfl e4 ?_
      refine op_pure (pv_fieldAddr rfl rfl rfl rfl 1 rfl) ?_
      refine guard_yes rfl e4 ?_
      refine op_loadP 1 (v := .slice _ _ _) rfl rfl rfl rfl ?_
      refine guard_yes rfl e4 ?_
      refine op_pure (pv_len rfl rfl) ?_
      refine guard_yes rfl e4 ?_
      refine op_pure (pv_of (v := .bool _) rfl) ?_
      refine op_pure (pv_pickF rfl e4 (v := .bool _) rfl) ?_
      refine op_pure (pv_assign (v := .bool _) rfl) ?_
      refine xp_ret ?_
      refine res_list (vs := [_]) Try.results32 ⟨resV_tmp rfl rfl, trivial⟩ fun V => ?_
      exact ⟨(ext_wl V), boolE (by rw [largeB, e0, e1, e2, e3, e4]; rfl)⟩
theorem large_sml {m : MachP} {a : HandP} (h : largeB m a = false) : Sml m ∧ SmlH a := by
 simp only [largeB, Bool.or_eq_false_iff, decide_eq_false_iff_not] at h
 obtain ⟨⟨⟨⟨⟨h1, h2⟩, h3⟩, h4⟩, h5⟩, h6⟩ := h
 exact ⟨⟨by omega, by omega, by omega, by omega⟩, ⟨by omega, by omega⟩⟩
end
end Go.Proofs.Ythphpbdmbmiaiaa
/- Walks of the reference: Force, Depth, Chart, Chord of any machine. Conditions: as each theorem states. -/
namespace Go.Proofs.Ythphpbdmbmiaiaa
open Go Go.HL Go.Proofs Go.Wx Go.Rd
section
variable [Lvl]
set_option maxRecDepth 100000
end
end Go.Proofs.Ythphpbdmbmiaiaa
/- Walks: more buttons, pins and links. Conditions: as each theorem states. -/
namespace Go.Proofs.Ythphpbdmbmiaiaa
open Go Go.HL Go.Proofs Go.Wx Go.Rd
section
variable [Lvl]
set_option maxRecDepth 100000
end
end Go.Proofs.Ythphpbdmbmiaiaa
