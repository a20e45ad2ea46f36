/- An own logic over the model, its walks and its plain laws, joined of parts V4 Xb X5 X6 Xc CC X7 R10 R11 R12 R13. Conditions: as each theorem states. -/
import Derived.Test.YtmpahfdiebhdbaaGreatDoorLa4
import Derived.Test.YtmpahfdiebhdbaaGreatDoorLa2
import Derived.Test.YtmpahfdiebhdbaaGreatDoorLa3
set_option linter.all false
/- Walks: rod.Write. Conditions: as each theorem states. -/
namespace Go.Rd
def headL (m : MachP) : List UInt8 := lineM [77] [m.rods, m.levers, m.regs, m.travel, m.opn]
def btnL (r : Int) : List UInt8 := lineM [66] [r]
def pinL (p : PinP) : List UInt8 := lineM [80] [p.rod, p.lever, p.lag]
def lnkL (l : LinkP) : List UInt8 := lineM [76] [l.frm, l.to, l.reg, l.lag]
def wgtL (w : Int) : List UInt8 := lineM [87] [w]
def wr1 (m : MachP) : List UInt8 := headL m ++ m.buttons.flatMap btnL
def wr2 (m : MachP) : List UInt8 := wr1 m ++ m.pins.flatMap pinL
def wr3 (m : MachP) : List UInt8 := wr2 m ++ m.links.flatMap lnkL
def wr4 (m : MachP) : List UInt8 := wr3 m ++ m.weights.flatMap wgtL
def writeM (m : MachP) : List UInt8 := wr4 m ++ [69, 10]
theorem lineM_len (w : List UInt8) (l : List Int) : (lineM w l).length ≤ w.length + 5 * l.length + 1 := by
  have := nums_len l
  unfold lineM
  simp only [List.length_append, List.length_cons, List.length_nil]
  omega
theorem flat_le {α : Type} (f : α → List UInt8) (q : Nat) (hq : ∀ x, (f x).length ≤ q) (l : List α) : (l.flatMap f).length ≤ q * l.length := by
  induction l with
  | nil => exact Nat.le_refl 0
  | cons n l ih =>
    have := hq n
    rw [List.flatMap_cons, List.length_append, List.length_cons, Nat.mul_succ]
    omega
theorem len1 {α : Type} (l : List α) (k : Nat) : (l.take k).length ≤ l.length := by rw [List.length_take]; omega
end Go.Rd
namespace Go.Proofs.YtmpahfdiebhdbaaGreatDoor
open Go Go.HL Go.Proofs Go.Wx Go.Rd
section
variable [Lvl]
set_option maxRecDepth 100000
def writeV (m : MachP) : Value := .tuple #[.string (bs (if chkM m = 0 then writeM m else [])), .int .i64 (chkM m)]
set_option maxHeartbeats 4000000 in
theorem Write_ok (m : MachP) (AB AQ AL AW : Option Addr) (cB cQ cL cW : Nat) (h : AH) (PW : Pow h) (R : MachR h AB AQ AL AW m) (h0 : m.weights.length < 2 ^ 40) :
    FnT Tryz.prog 9 #[machV AB AQ AL AW cB cQ cL cW m] h (fun v _ => v = writeV m) := by
  refine call_body Tryz.func9 rfl Tryz.ntmps9 rfl ?_
  refine xp_seq ?_
  refine xp_region rfl ?_
  refine op_box (v := .agg #[.int .i64 _, .int .i64 _, .int .i64 _, .int .i64 _, .int .i64 _, .slice _ _ _, .slice _ _ _, .slice _ _ _, .slice _ _ _]) (cs := [_, _, _, _, _, _, _, _, _]) rfl rfl fun b1 hb1 => ?_
  refine wp_norm [_] rfl ?_
  refine op_pure (pv_assign (v := .string _) rfl) ?_
  refine op_pure (pv_assign (v := .int .i64 _) rfl) ?_
  refine xp_seq ?_
  refine xp_seq ?_
  refine xp_region rfl ?_
  refine op_loadPA 0 (vs := [.int .i64 _, .int .i64 _, .int .i64 _, .int .i64 _, .int .i64 _, .slice _ _ _, .slice _ _ _, .slice _ _ _, .slice _ _ _]) rfl rfl rfl rfl rfl ?_
  refine op_fn (caps := []) (vs := [.agg #[.int .i64 _, .int .i64 _, .int .i64 _, .int .i64 _, .int .i64 _, .slice _ _ _, .slice _ _ _, .slice _ _ _, .slice _ _ _]]) rfl rfl rfl (Check_ok m AB AQ AL AW cB cQ cL cW h (R.ext (Ext.refl _)) h0) ?_
  rintro _ h1 E1 rfl
  refine op_pure (pv_assign (v := .int .i64 _) rfl) ?_
  refine xp_seq ?_
  refine xp_region rfl ?_
  refine op_pure (pv_move (v := .int .i64 _) rfl) ?_
  refine op_pure (pv_of (v := .bool _) rfl) ?_
  refine xp_cond rfl (fun hc => ?_) (fun hc => ?_)
  · skip
    have hc' : chkM m ≠ 0 := by simpa using hc
    refine xp_seq ?_
    refine xp_region rfl ?_
    refine op_pure (pv_move (v := .int .i64 _) rfl) ?_
    refine op_pure (pv_assign (v := .string _) rfl) ?_
    refine op_pure (pv_assign (v := .int .i64 _) rfl) ?_
    refine xp_ret ?_
    refine res_list (vs := [_, _]) Tryz.results9 ⟨resV_tmp rfl rfl, resV_tmp rfl rfl, trivial⟩ fun V => ?_
    exact ⟨(Ext.trans E1 (ext_wl V)), by rw [writeV, if_neg hc']; rfl⟩
  · skip
    have hc' : chkM m = 0 := by simpa using hc
    have M := check_ok hc'
    have q1 := M.rods
    have q2 := M.levers
    have q3 := M.regs
    have q4 := M.travel
    have q5 := M.opn
    have q6 := M.bl
    have q7 := M.pl
    have q8 := M.ll
    have q9 := M.wl
    refine xp_skip ?_
    refine xp_seq ?_
    refine xp_region rfl ?_
    refine op_pure (pv_fieldAddr rfl rfl rfl rfl 0 rfl) ?_
    refine op_loadP 0 (v := .int .i64 _) rfl rfl rfl rfl ?_
    refine op_pure (pv_fieldAddr rfl rfl rfl rfl 1 rfl) ?_
    refine op_loadP 0 (v := .int .i64 _) rfl rfl rfl rfl ?_
    refine op_pure (pv_fieldAddr rfl rfl rfl rfl 2 rfl) ?_
    refine op_loadP 0 (v := .int .i64 _) rfl rfl rfl rfl ?_
    refine op_pure (pv_fieldAddr rfl rfl rfl rfl 3 rfl) ?_
    refine op_loadP 0 (v := .int .i64 _) rfl rfl rfl rfl ?_
    refine op_pure (pv_fieldAddr rfl rfl rfl rfl 4 rfl) ?_
    refine op_loadP 0 (v := .int .i64 _) rfl rfl rfl rfl ?_
    refine op_buildSlice (zc := [_]) (vs := [(0, .int .i64 _), (1, .int .i64 _), (2, .int .i64 _), (3, .int .i64 _), (4, .int .i64 _)]) (cs := [_, _, _, _, _]) rfl rfl rfl rfl rfl rfl rfl fun b29 hb29 => ?_
    refine wp_norm [_, _] rfl ?_
    refine wp_pub 1 rfl rfl ?_
    intro h2 E2 hb2
    refine wp_norm [_, _] rfl ?_
    refine op_fn (caps := []) (vs := [.string _, .slice _ _ _]) rfl rfl rfl (line_ok [77] [m.rods, m.levers, m.regs, m.travel, m.opn] _ _ h2 (PW.ext (Ext.trans E1 E2)) (row_of_block (enc := intC) (fun _ _ => rfl) hb2) (by intro n hn; simp only [List.mem_cons, List.not_mem_nil, or_false] at hn; exact .inr (by omega)) (by decide) (by show 5 < 100; decide)) ?_
    rintro _ h3 E3 rfl
    refine op_pure (pv_assign (v := .string _) rfl) ?_
    refine xp_seq ?_
    refine xp_seq ?_
    refine xp_region rfl ?_
    refine op_pure (pv_fieldAddr rfl rfl rfl rfl 5 rfl) ?_
    refine op_loadP 0 (v := .slice _ _ _) rfl rfl rfl rfl ?_
    refine op_pure (pv_len rfl rfl) ?_
    refine op_pure (pv_move (v := .int .i64 _) rfl) ?_
    refine xp_block ?_
    have z0 := lineM_len [77] [m.rods, m.levers, m.regs, m.travel, m.opn]
    simp only [List.length_cons, List.length_nil] at z0
    refine xp_loopB [5, 7, 34, 35, 36, 37, 38, 39, 40, 41, 42, 43] 2 (α := Nat) (fun k => [(34, .int .i64 k), (5, .string (bs (headL m ++ (m.buttons.take k).flatMap btnL)))]) (fun k => _) (fun k h_k => k ≤ m.buttons.length) (fun k => m.buttons.length - k) (0) ⟨rfl, strE (by simp [headL]), trivial⟩ (rfl) (Nat.zero_le _) ?_
    rintro k T1 h_k E_k J_k
    refine goes_norm [_, _] rfl ?_
    have z1 := flat_le btnL 7 (fun r => lineM_len [66] [r]) (m.buttons.take k)
    have z2 := len1 m.buttons k
    refine xp_seq ?_
    refine xp_region rfl ?_
    refine op_pure (pv_of (v := .bool _) rfl) ?_
    refine xp_seq ?_
    refine xp_cond rfl (fun hk => ?_) (fun hk => ?_)
    · skip
      have hkl : k < m.buttons.length := ltI hk
      obtain ⟨g, off, hA, hc⟩ := (R.b.ext (Ext.trans (Ext.trans (Ext.trans E1 E2) E3) E_k)).at (by omega) hkl
      refine xp_skip ?_
      refine xp_seq ?_
      refine xp_block ?_
      refine xp_seq ?_
      refine xp_region rfl ?_
      refine op_pure (pv_indexE rfl hA rfl rfl rfl (by omega) (by omega)) ?_
      refine op_load (v := .int .i64 _) rfl rfl ((hc) 0 _ rfl) ?_
      refine op_pure (pv_assign (v := .int .i64 _) rfl) ?_
      refine xp_region rfl ?_
      refine op_pure (pv_move (v := .string _) rfl) ?_
      refine op_pure (pv_move (v := .int .i64 _) rfl) ?_
      refine op_buildSlice (zc := [_]) (vs := [(0, .int .i64 _)]) (cs := [_]) rfl rfl rfl rfl rfl rfl rfl fun b40 hb40 => ?_
      refine wp_norm [_, _, _] rfl ?_
      refine wp_pub 2 rfl rfl ?_
      intro h4 E4 hb4
      refine wp_norm [_, _, _] rfl ?_
      refine op_fn (caps := []) (vs := [.string _, .slice _ _ _]) rfl rfl rfl (line_ok [66] [m.buttons[k]] _ _ h4 (PW.ext (Ext.trans (Ext.trans (Ext.trans (Ext.trans E1 E2) E3) E_k) E4)) (row_of_block (enc := intC) (fun _ _ => rfl) hb4) (by intro n hn; simp only [List.mem_cons, List.not_mem_nil, or_false] at hn; subst hn; have := M.btn _ (List.getElem_mem hkl); exact .inr (by omega)) (by decide) (by show 1 < 100; decide)) ?_
      rintro _ h5 E5 rfl
      have z3 := lineM_len [66] [m.buttons[k]]
      simp only [List.length_cons, List.length_nil] at z3
      refine op_pure (pv_cat rfl rfl (by rw [List.length_append]; unfold headL; omega)) ?_
      refine op_pure (pv_assign (v := .string _) rfl) ?_
      refine xp_region rfl ?_
      refine op_pure (pv_arith rfl (by omega)) ?_
      refine op_pure (pv_move (v := .int .i64 _) rfl) ?_
      refine ⟨k + 1, ⟨rfl, strE (by rw [flat_take btnL hkl, List.append_assoc]; rfl), trivial⟩, rfl, rfl, (Ext.trans (Ext.trans E_k E4) E5), fun h3 E3 => hkl, by first | omega | (dsimp only; omega), ?_⟩
      repeat (first | exact off_base _ _ _ | refine off_upd (by decide) ?_ | refine off_updL rfl ?_ | refine off_mix rfl ?_)
    · skip
      have hke : k = m.buttons.length := by have := geI hk; omega
      subst hke
      rw [List.take_length] at z1
      refine xp_exit ?_
      refine xp_seq ?_
      refine xp_seq ?_
      refine xp_region rfl ?_
      refine op_pure (pv_fieldAddr rfl rfl rfl rfl 6 rfl) ?_
      refine op_loadP 0 (v := .slice _ _ _) rfl rfl rfl rfl ?_
      refine op_pure (pv_len rfl rfl) ?_
      refine op_pure (pv_move (v := .int .i64 _) rfl) ?_
      refine xp_block ?_
      have y0 : (wr1 m).length < 1000 := by unfold wr1 headL; rw [List.length_append]; omega
      refine xp_loopB [5, 9, 47, 48, 49, 50, 51, 52, 53, 54, 55, 56, 57, 58, 59, 60, 61] 2 (α := Nat) (fun k2 => [(47, .int .i64 k2), (5, .string (bs (wr1 m ++ (m.pins.take k2).flatMap pinL)))]) (fun k2 => _) (fun k2 h_k2 => k2 ≤ m.pins.length) (fun k2 => m.pins.length - k2) (0) ⟨rfl, strE (by simp [wr1, List.take_length]), trivial⟩ (rfl) (Nat.zero_le _) ?_
      rintro k2 T2 h_k2 E_k2 J_k2
      refine goes_norm [_, _] rfl ?_
      have x1 := flat_le pinL 17 (fun r => lineM_len [80] [r.rod, r.lever, r.lag]) (m.pins.take k2)
      have x2 := len1 m.pins k2
      refine xp_seq ?_
      refine xp_region rfl ?_
      refine op_pure (pv_of (v := .bool _) rfl) ?_
      refine xp_seq ?_
      refine xp_cond rfl (fun hk2 => ?_) (fun hk2 => ?_)
      · skip
        have hkl : k2 < m.pins.length := ltI hk2
        obtain ⟨g, off, hA, hc⟩ := (R.q.ext (Ext.trans (Ext.trans (Ext.trans (Ext.trans E1 E2) E3) E_k) E_k2)).at (by omega) hkl
        refine xp_skip ?_
        refine xp_seq ?_
        refine xp_block ?_
        refine xp_seq ?_
        refine xp_region rfl ?_
        refine op_pure (pv_indexE rfl hA rfl rfl rfl (by omega) (by omega)) ?_
        refine op_loadA rfl rfl rfl rfl (hc) ?_
        refine op_alloc (cs := [_, _, _]) rfl rfl fun b9 hb9 => ?_
        refine wp_norm [_, _, _] rfl ?_
        refine op_storeP 2 (v := .agg #[.int .i64 _, .int .i64 _, .int .i64 _]) (vs := [_, _, _]) (c' := [_, _, _]) rfl rfl rfl rfl rfl rfl rfl rfl rfl ?_
        refine wp_norm [_, _, _] rfl ?_
        refine xp_region rfl ?_
        refine op_pure (pv_move (v := .string _) rfl) ?_
        refine op_pure (pv_fieldAddr rfl rfl rfl rfl 0 rfl) ?_
        refine op_loadP 2 (v := .int .i64 _) rfl rfl rfl rfl ?_
        refine op_pure (pv_fieldAddr rfl rfl rfl rfl 1 rfl) ?_
        refine op_loadP 2 (v := .int .i64 _) rfl rfl rfl rfl ?_
        refine op_pure (pv_fieldAddr rfl rfl rfl rfl 2 rfl) ?_
        refine op_loadP 2 (v := .int .i64 _) rfl rfl rfl rfl ?_
        refine op_buildSlice (zc := [_]) (vs := [(0, .int .i64 _), (1, .int .i64 _), (2, .int .i64 _)]) (cs := [_, _, _]) rfl rfl rfl rfl rfl rfl rfl fun b58 hb58 => ?_
        refine wp_norm [_, _, _, _] rfl ?_
        refine wp_pub 3 rfl rfl ?_
        intro h4 E4 hb4
        refine wp_norm [_, _, _, _] rfl ?_
        refine op_fn (caps := []) (vs := [.string _, .slice _ _ _]) rfl rfl rfl (line_ok [80] [m.pins[k2].rod, m.pins[k2].lever, m.pins[k2].lag] _ _ h4 (PW.ext (Ext.trans (Ext.trans (Ext.trans (Ext.trans (Ext.trans E1 E2) E3) E_k) E_k2) E4)) (row_of_block (enc := intC) (fun _ _ => rfl) hb4) (by intro n hn; simp only [List.mem_cons, List.not_mem_nil, or_false] at hn; have := M.pin _ (List.getElem_mem hkl); exact .inr (by omega)) (by decide) (by show 3 < 100; decide)) ?_
        rintro _ h5 E5 rfl
        have x3 := lineM_len [80] [m.pins[k2].rod, m.pins[k2].lever, m.pins[k2].lag]
        simp only [List.length_cons, List.length_nil] at x3
        refine op_pure (pv_cat rfl rfl (by rw [List.length_append]; omega)) ?_
        refine op_pure (pv_assign (v := .string _) rfl) ?_
        refine xp_region rfl ?_
        refine op_pure (pv_arith rfl (by omega)) ?_
        refine op_pure (pv_move (v := .int .i64 _) rfl) ?_
        refine ⟨k2 + 1, ⟨rfl, strE (by rw [flat_take pinL hkl, List.append_assoc]; rfl), trivial⟩, rfl, rfl, (Ext.trans (Ext.trans E_k2 E4) E5), fun h3 E3 => hkl, by first | omega | (dsimp only; omega), ?_⟩
        repeat (first | exact off_base _ _ _ | refine off_upd (by decide) ?_ | refine off_updL rfl ?_ | refine off_mix rfl ?_)
      · skip
        have hke : k2 = m.pins.length := by have := geI hk2; omega
        subst hke
        rw [List.take_length] at x1
        refine xp_exit ?_
        refine xp_seq ?_
        refine xp_seq ?_
        refine xp_region rfl ?_
        refine op_pure (pv_fieldAddr rfl rfl rfl rfl 7 rfl) ?_
        refine op_loadP 0 (v := .slice _ _ _) rfl rfl rfl rfl ?_
        refine op_pure (pv_len rfl rfl) ?_
        refine op_pure (pv_move (v := .int .i64 _) rfl) ?_
        refine xp_block ?_
        have y1 : (wr2 m).length < 2000 := by unfold wr2; rw [List.length_append]; omega
        refine xp_loopB [5, 11, 65, 66, 67, 68, 69, 70, 71, 72, 73, 74, 75, 76, 77, 78, 79, 80, 81] 2 (α := Nat) (fun k3 => [(65, .int .i64 k3), (5, .string (bs (wr2 m ++ (m.links.take k3).flatMap lnkL)))]) (fun k3 => _) (fun k3 h_k3 => k3 ≤ m.links.length) (fun k3 => m.links.length - k3) (0) ⟨rfl, strE (by simp [wr2, List.take_length]), trivial⟩ (rfl) (Nat.zero_le _) ?_
        rintro k3 T3 h_k3 E_k3 J_k3
        refine goes_norm [_, _] rfl ?_
        have w1 := flat_le lnkL 22 (fun r => lineM_len [76] [r.frm, r.to, r.reg, r.lag]) (m.links.take k3)
        have w2 := len1 m.links k3
        refine xp_seq ?_
        refine xp_region rfl ?_
        refine op_pure (pv_of (v := .bool _) rfl) ?_
        refine xp_seq ?_
        refine xp_cond rfl (fun hk3 => ?_) (fun hk3 => ?_)
        · skip
          have hkl : k3 < m.links.length := ltI hk3
          obtain ⟨g, off, hA, hc⟩ := (R.l.ext (Ext.trans (Ext.trans (Ext.trans (Ext.trans (Ext.trans E1 E2) E3) E_k) E_k2) E_k3)).at (by omega) hkl
          refine xp_skip ?_
          refine xp_seq ?_
          refine xp_block ?_
          refine xp_seq ?_
          refine xp_region rfl ?_
          refine op_pure (pv_indexE rfl hA rfl rfl rfl (by omega) (by omega)) ?_
          refine op_loadA rfl rfl rfl rfl (hc) ?_
          refine op_alloc (cs := [_, _, _, _]) rfl rfl fun b11 hb11 => ?_
          refine wp_norm [_, _, _] rfl ?_
          refine op_storeP 2 (v := .agg #[.int .i64 _, .int .i64 _, .int .i64 _, .int .i64 _]) (vs := [_, _, _, _]) (c' := [_, _, _, _]) rfl rfl rfl rfl rfl rfl rfl rfl rfl ?_
          refine wp_norm [_, _, _] rfl ?_
          refine xp_region rfl ?_
          refine op_pure (pv_move (v := .string _) rfl) ?_
          refine op_pure (pv_fieldAddr rfl rfl rfl rfl 0 rfl) ?_
          refine op_loadP 2 (v := .int .i64 _) rfl rfl rfl rfl ?_
          refine op_pure (pv_fieldAddr rfl rfl rfl rfl 1 rfl) ?_
          refine op_loadP 2 (v := .int .i64 _) rfl rfl rfl rfl ?_
          refine op_pure (pv_fieldAddr rfl rfl rfl rfl 2 rfl) ?_
          refine op_loadP 2 (v := .int .i64 _) rfl rfl rfl rfl ?_
          refine op_pure (pv_fieldAddr rfl rfl rfl rfl 3 rfl) ?_
          refine op_loadP 2 (v := .int .i64 _) rfl rfl rfl rfl ?_
          refine op_buildSlice (zc := [_]) (vs := [(0, .int .i64 _), (1, .int .i64 _), (2, .int .i64 _), (3, .int .i64 _)]) (cs := [_, _, _, _]) rfl rfl rfl rfl rfl rfl rfl fun b78 hb78 => ?_
          refine wp_norm [_, _, _, _] rfl ?_
          refine wp_pub 3 rfl rfl ?_
          intro h4 E4 hb4
          refine wp_norm [_, _, _, _] rfl ?_
          refine op_fn (caps := []) (vs := [.string _, .slice _ _ _]) rfl rfl rfl (line_ok [76] [m.links[k3].frm, m.links[k3].to, m.links[k3].reg, m.links[k3].lag] _ _ h4 (PW.ext (Ext.trans (Ext.trans (Ext.trans (Ext.trans (Ext.trans (Ext.trans E1 E2) E3) E_k) E_k2) E_k3) E4)) (row_of_block (enc := intC) (fun _ _ => rfl) hb4) (by intro n hn; simp only [List.mem_cons, List.not_mem_nil, or_false] at hn; have := M.link _ (List.getElem_mem hkl); unfold ItoD; omega) (by decide) (by show 4 < 100; decide)) ?_
          rintro _ h5 E5 rfl
          have w3 := lineM_len [76] [m.links[k3].frm, m.links[k3].to, m.links[k3].reg, m.links[k3].lag]
          simp only [List.length_cons, List.length_nil] at w3
          refine op_pure (pv_cat rfl rfl (by rw [List.length_append]; omega)) ?_
          refine op_pure (pv_assign (v := .string _) rfl) ?_
          refine xp_region rfl ?_
          refine op_pure (pv_arith rfl (by omega)) ?_
          refine op_pure (pv_move (v := .int .i64 _) rfl) ?_
          refine ⟨k3 + 1, ⟨rfl, strE (by rw [flat_take lnkL hkl, List.append_assoc]; rfl), trivial⟩, rfl, rfl, (Ext.trans (Ext.trans E_k3 E4) E5), fun h3 E3 => hkl, by first | omega | (dsimp only; omega), ?_⟩
          repeat (first | exact off_base _ _ _ | refine off_upd (by decide) ?_ | refine off_updL rfl ?_ | refine off_mix rfl ?_)
        · skip
          have hke : k3 = m.links.length := by have := geI hk3; omega
          subst hke
          rw [List.take_length] at w1
          refine xp_exit ?_
          refine xp_seq ?_
          refine xp_seq ?_
          refine xp_region rfl ?_
          refine op_pure (pv_fieldAddr rfl rfl rfl rfl 8 rfl) ?_
          refine op_loadP 0 (v := .slice _ _ _) rfl rfl rfl rfl ?_
          refine op_pure (pv_len rfl rfl) ?_
          refine op_pure (pv_move (v := .int .i64 _) rfl) ?_
          refine xp_block ?_
          have y2 : (wr3 m).length < 3000 := by unfold wr3; rw [List.length_append]; omega
          refine xp_loopB [5, 13, 85, 86, 87, 88, 89, 90, 91, 92, 93, 94] 2 (α := Nat) (fun k4 => [(85, .int .i64 k4), (5, .string (bs (wr3 m ++ (m.weights.take k4).flatMap wgtL)))]) (fun k4 => _) (fun k4 h_k4 => k4 ≤ m.weights.length) (fun k4 => m.weights.length - k4) (0) ⟨rfl, strE (by simp [wr3, List.take_length]), trivial⟩ (rfl) (Nat.zero_le _) ?_
          rintro k4 T4 h_k4 E_k4 J_k4
          refine goes_norm [_, _] rfl ?_
          have v1 := flat_le wgtL 7 (fun r => lineM_len [87] [r]) (m.weights.take k4)
          have v2 := len1 m.weights k4
          refine xp_seq ?_
          refine xp_region rfl ?_
          refine op_pure (pv_of (v := .bool _) rfl) ?_
          refine xp_seq ?_
          refine xp_cond rfl (fun hk4 => ?_) (fun hk4 => ?_)
          · skip
            have hkl : k4 < m.weights.length := ltI hk4
            obtain ⟨g, off, hA, hc⟩ := (R.w.ext (Ext.trans (Ext.trans (Ext.trans (Ext.trans (Ext.trans (Ext.trans E1 E2) E3) E_k) E_k2) E_k3) E_k4)).at (by omega) hkl
            refine xp_skip ?_
            refine xp_seq ?_
            refine xp_block ?_
            refine xp_seq ?_
            refine xp_region rfl ?_
            refine op_pure (pv_indexE rfl hA rfl rfl rfl (by omega) (by omega)) ?_
            refine op_load (v := .int .i64 _) rfl rfl ((hc) 0 _ rfl) ?_
            refine op_pure (pv_assign (v := .int .i64 _) rfl) ?_
            refine xp_region rfl ?_
            refine op_pure (pv_move (v := .string _) rfl) ?_
            refine op_pure (pv_move (v := .int .i64 _) rfl) ?_
            refine op_buildSlice (zc := [_]) (vs := [(0, .int .i64 _)]) (cs := [_]) rfl rfl rfl rfl rfl rfl rfl fun b91 hb91 => ?_
            refine wp_norm [_, _, _] rfl ?_
            refine wp_pub 2 rfl rfl ?_
            intro h4 E4 hb4
            refine wp_norm [_, _, _] rfl ?_
            refine op_fn (caps := []) (vs := [.string _, .slice _ _ _]) rfl rfl rfl (line_ok [87] [m.weights[k4]] _ _ h4 (PW.ext (Ext.trans (Ext.trans (Ext.trans (Ext.trans (Ext.trans (Ext.trans (Ext.trans E1 E2) E3) E_k) E_k2) E_k3) E_k4) E4)) (row_of_block (enc := intC) (fun _ _ => rfl) hb4) (by intro n hn; simp only [List.mem_cons, List.not_mem_nil, or_false] at hn; subst hn; have := M.wt _ (List.getElem_mem hkl); exact .inr (by omega)) (by decide) (by show 1 < 100; decide)) ?_
            rintro _ h5 E5 rfl
            have v3 := lineM_len [87] [m.weights[k4]]
            simp only [List.length_cons, List.length_nil] at v3
            refine op_pure (pv_cat rfl rfl (by rw [List.length_append]; omega)) ?_
            refine op_pure (pv_assign (v := .string _) rfl) ?_
            refine xp_region rfl ?_
            refine op_pure (pv_arith rfl (by omega)) ?_
            refine op_pure (pv_move (v := .int .i64 _) rfl) ?_
            refine ⟨k4 + 1, ⟨rfl, strE (by rw [flat_take wgtL hkl, List.append_assoc]; rfl), trivial⟩, rfl, rfl, (Ext.trans (Ext.trans E_k4 E4) E5), fun h3 E3 => hkl, by first | omega | (dsimp only; omega), ?_⟩
            repeat (first | exact off_base _ _ _ | refine off_upd (by decide) ?_ | refine off_updL rfl ?_ | refine off_mix rfl ?_)
          · skip
            have hke : k4 = m.weights.length := by have := geI hk4; omega
            subst hke
            rw [List.take_length] at v1
            refine xp_exit ?_
            refine xp_seq ?_
            refine xp_region rfl ?_
            refine op_pure (pv_move (v := .string _) rfl) ?_
            refine op_pure (pv_cat (b := [69, 10]) rfl rfl (by rw [List.take_length, List.length_append]; show _ + 2 < _; omega)) ?_
            refine op_pure (pv_assign (v := .string _) rfl) ?_
            refine op_pure (pv_assign (v := .int .i64 _) rfl) ?_
            refine xp_ret ?_
            refine res_list (vs := [_, _]) Tryz.results9 ⟨resV_tmp rfl rfl, resV_tmp rfl rfl, trivial⟩ fun V => ?_
            exact ⟨(Ext.trans (Ext.trans (Ext.trans (Ext.trans (Ext.trans (Ext.trans (Ext.trans E1 E2) E3) E_k) E_k2) E_k3) E_k4) (ext_wl V)), by rw [writeV, if_pos hc', hc']; exact congrArg (fun z => Value.tuple #[.string (bs z), .int .i64 0]) (show (wr3 m ++ (m.weights.take m.weights.length).flatMap wgtL) ++ [69, 10] = writeM m by rw [List.take_length]; rfl)⟩
end
end Go.Proofs.YtmpahfdiebhdbaaGreatDoor
/- Plain law: machines as texts, read and written. Conditions: none. -/
namespace Go.Rd
open Go.HL
set_option linter.all false
def rowW (w : List UInt8) (l : List Int) : List UInt8 := joinL 47 (w :: l.map itoaL)
theorem lineM_row (w : List UInt8) (l : List Int) : lineM w l = rowW w l ++ [10] := by
  show w ++ l.flatMap numL ++ [10] = (w ++ (l.map itoaL).flatMap (fun y => 47 :: y)) ++ [10]
  rw [List.flatMap_map]
  rfl
def m0 : MachP := ⟨0, 0, 0, 0, 0, [], [], [], []⟩
def rowsM (m : MachP) : List (List UInt8) := rowW [77] [m.rods, m.levers, m.regs, m.travel, m.opn] :: (m.buttons.map (fun r => rowW [66] [r]) ++ (m.pins.map (fun p => rowW [80] [p.rod, p.lever, p.lag]) ++ (m.links.map (fun l => rowW [76] [l.frm, l.to, l.reg, l.lag]) ++ (m.weights.map (fun w => rowW [87] [w]) ++ [rowW [69] []]))))
theorem writeM_lines (m : MachP) : writeM m = lines (rowsM m) := by
  have e : ∀ {α : Type} (l : List α) (f : α → List UInt8) (g : α → List UInt8), (∀ x, f x = g x ++ [10]) → l.flatMap f = lines (l.map g) := by
    intro α l f g h
    unfold lines
    rw [List.flatMap_map]
    congr 1
    funext x
    exact h x
  have la : ∀ a b : List (List UInt8), lines (a ++ b) = lines a ++ lines b := fun a b => List.flatMap_append
  have lc : ∀ (a : List UInt8) (b : List (List UInt8)), lines (a :: b) = (a ++ [10]) ++ lines b := fun a b => List.flatMap_cons
  unfold writeM wr4 wr3 wr2 wr1 rowsM headL
  rw [lc, la, la, la, la, ← lineM_row, e m.buttons btnL _ (fun r => lineM_row [66] [r]), e m.pins pinL _ (fun p => lineM_row [80] [p.rod, p.lever, p.lag]), e m.links lnkL _ (fun l => lineM_row [76] [l.frm, l.to, l.reg, l.lag]), e m.weights wgtL _ (fun w => lineM_row [87] [w])]
  simp only [List.append_assoc]
  rfl
/-- The place of a word, and how many numbers its line has. -/
def kindR (w : List UInt8) : Int × Nat := if w = [77] then (0, 5) else if w = [66] then (1, 1) else if w = [80] then (2, 3) else if w = [76] then (3, 4) else if w = [87] then (4, 1) else if w = [69] then (5, 0) else (-1, 0)
def numW (b : Bool) (x : List UInt8) : Option Int := if b = true ∧ x = [45, 49] then some (-1) else (numR x).map fun n : Nat => (n : Int)
def numsFrom (below : Int) : Nat → List (List UInt8) → Option (List Int)
  | _, [] => some []
  | i, x :: r => (numW (decide ((i : Int) = below)) x).bind fun n => (numsFrom below (i + 1) r).map (n :: ·)
def numsR (below : Int) (many : Nat) (w : List (List UInt8)) : Option (List Int) := if w.length = many then numsFrom below 0 w else none
def takeM (m : MachP) (p : Int) (l : List Int) : MachP :=
  match l with
  | [a, b, c, d, e] => if p = 0 then { m with rods := a, levers := b, regs := c, travel := d, opn := e } else m
  | [a] => if p = 1 then { m with buttons := m.buttons ++ [a] } else if p = 4 then { m with weights := m.weights ++ [a] } else m
  | [a, b, c] => if p = 2 then { m with pins := m.pins ++ [⟨a, b, c⟩] } else m
  | [a, b, c, d] => if p = 3 then { m with links := m.links ++ [⟨a, b, c, d⟩] } else m
  | _ => m
def belR (w : List UInt8) : Int := if w = [76] then 2 else -1
def rowR (first : Bool) (at_ : Int) (m : MachP) (row : List UInt8) : Option (Int × MachP) :=
  match splitL 47 row with
  | [] => none
  | w :: ws =>
    match numsR (belR w) (kindR w).2 ws with
    | none => none
    | some l => if (kindR w).1 < at_ ∨ at_ = 5 ∨ decide ((kindR w).1 = 0) ≠ first then none else some ((kindR w).1, takeM m (kindR w).1 l)
def goR : Nat → Int → MachP → List (List UInt8) → Nat × Int × MachP
  | _, at_, m, [] => (0, at_, m)
  | i, at_, m, r :: rs => match rowR (decide (i = 0)) at_ m r with | none => (i + 1, at_, m) | some s => goR (i + 1) s.1 s.2 rs
theorem goR_cons (i : Nat) (at_ : Int) (m : MachP) (r : List UInt8) (rs : List (List UInt8)) : goR i at_ m (r :: rs) = match rowR (decide (i = 0)) at_ m r with | none => (i + 1, at_, m) | some s => goR (i + 1) s.1 s.2 rs := rfl
def readM (t : List UInt8) : MachP × Int × Int :=
  if t.length > 400 then (m0, 0, 10) else
  let rows := splitL 10 t
  let g := goR 0 (-1) m0 rows.dropLast
  if g.1 ≠ 0 then (m0, g.1, 2) else if g.2.1 ≠ 5 ∨ rows.getLast? ≠ some [] then (m0, rows.length, 2) else if chkM g.2.2 ≠ 0 then (m0, 0, chkM g.2.2) else (g.2.2, 0, 0)
theorem numW_itoa {b : Bool} {n : Int} (h : (0 ≤ n ∧ n < 1000) ∨ (b = true ∧ n = -1)) : numW b (itoaL n) = some n := by
  unfold numW
  rcases h with ⟨h0, h1⟩ | ⟨rfl, rfl⟩
  · obtain ⟨k, rfl⟩ : ∃ k : Nat, n = k := ⟨n.toNat, by omega⟩
    rw [itoaL_nat, if_neg, numR_natL (by omega)]
    · rfl
    · rintro ⟨_, h⟩
      have := natL_isD (k := k) (by omega) 45 (by rw [h]; simp)
      exact absurd this (by decide)
  · rw [if_pos ⟨rfl, rfl⟩]
theorem numW_some {b : Bool} {x : List UInt8} {n : Int} (h : numW b x = some n) : itoaL n = x ∧ ((0 ≤ n ∧ n < 1000) ∨ (b = true ∧ n = -1)) := by
  unfold numW at h
  split at h
  · rename_i hb
    cases h
    exact ⟨hb.2.symm, .inr ⟨hb.1, rfl⟩⟩
  · obtain ⟨k, h1, h2⟩ := Option.map_eq_some_iff.1 h
    obtain ⟨_, _, a3, a4⟩ := of_numR h1
    subst h2
    exact ⟨a3, .inl ⟨by omega, by omega⟩⟩
theorem numsFrom_some {below : Int} : ∀ {i : Nat} {ws : List (List UInt8)} {l : List Int}, numsFrom below i ws = some l → ws = l.map itoaL
  | i, [], l, h => by cases h; rfl
  | i, x :: r, l, h => by
    unfold numsFrom at h
    obtain ⟨n, h1, h2⟩ := Option.bind_eq_some_iff.1 h
    obtain ⟨l', h3, h4⟩ := Option.map_eq_some_iff.1 h2
    subst h4
    rw [List.map_cons, (numW_some h1).1, ← numsFrom_some h3]
theorem numsFrom_itoa {below : Int} : ∀ (l : List Int) (i : Nat), (∀ (j : Nat) (n : Int), l[j]? = some n → (0 ≤ n ∧ n < 1000) ∨ (((i + j : Nat) : Int) = below ∧ n = -1)) → numsFrom below i (l.map itoaL) = some l
  | [], i, _ => rfl
  | n :: l, i, h => by
    have h0 : numW (decide ((i : Int) = below)) (itoaL n) = some n := numW_itoa (by
      rcases h 0 n rfl with a | ⟨a, b⟩
      · exact .inl a
      · exact .inr ⟨decide_eq_true a, b⟩)
    have ih := numsFrom_itoa (below := below) l (i + 1) fun j m hm => by
      have := h (j + 1) m hm
      rwa [show i + (j + 1) = i + 1 + j by omega] at this
    show (numW (decide ((i : Int) = below)) (itoaL n)).bind (fun n => (numsFrom below (i + 1) (l.map itoaL)).map (n :: ·)) = _
    rw [h0, ih]
    rfl
theorem numsFrom_small {below : Int} (l : List Int) (h : ∀ n ∈ l, 0 ≤ n ∧ n < 1000) : numsFrom below 0 (l.map itoaL) = some l := numsFrom_itoa l 0 fun j n hn => .inl (h n (List.mem_of_getElem? hn))
theorem numsFrom_len {below : Int} {i : Nat} {ws : List (List UInt8)} {l : List Int} (h : numsFrom below i ws = some l) : l.length = ws.length := by rw [numsFrom_some h, List.length_map]
theorem numsFrom_snoc {below : Int} {x : List UInt8} : ∀ {i : Nat} {ws : List (List UInt8)}, numsFrom below i (ws ++ [x]) = (numsFrom below i ws).bind fun l => (numW (decide (((i + ws.length : Nat) : Int) = below)) x).map fun n => l ++ [n]
  | i, [] => by
    show (numW _ x).bind _ = _
    simp only [numsFrom, Option.bind_some, List.length_nil, Nat.add_zero]
    cases numW (decide ((i : Int) = below)) x <;> rfl
  | i, y :: ws => by
    rw [List.cons_append]
    unfold numsFrom
    rw [numsFrom_snoc]
    have e : i + 1 + ws.length = i + (y :: ws).length := by rw [List.length_cons]; omega
    rw [e]
    cases numW (decide ((i : Int) = below)) y with
    | none => rfl
    | some n =>
      simp only [Option.bind_some]
      cases numsFrom below (i + 1) ws with
      | none => rfl
      | some l =>
        simp only [Option.bind_some, Option.map_some]
        cases numW (decide (((i + (y :: ws).length : Nat) : Int) = below)) x <;> rfl
theorem numsFrom_more {below : Int} : ∀ (b : List (List UInt8)) {i : Nat} {a : List (List UInt8)}, numsFrom below i a = none → numsFrom below i (a ++ b) = none
  | b, i, [], h => by cases h
  | b, i, y :: a, h => by
    rw [List.cons_append]
    unfold numsFrom at h ⊢
    cases hy : numW (decide ((i : Int) = below)) y with
    | none => rfl
    | some n =>
      rw [hy] at h
      simp only [Option.bind_some, Option.map_eq_none_iff] at h ⊢
      exact numsFrom_more b h
theorem nums_step {below : Int} {w : List (List UInt8)} {k : Nat} {L : List Int} (hk : k < w.length) (h : numsFrom below 0 (w.take k) = some L) : numsFrom below 0 (w.take (k + 1)) = (numW (decide ((k : Int) = below)) w[k]).map fun n => L ++ [n] := by
  rw [List.take_add_one, List.getElem?_eq_getElem hk]
  show numsFrom below 0 (w.take k ++ [w[k]]) = _
  rw [numsFrom_snoc, h, Option.bind_some]
  have : 0 + (w.take k).length = k := by rw [List.length_take]; omega
  rw [this]
theorem nums_stop {below : Int} {w : List (List UInt8)} {k : Nat} (h : numsFrom below 0 (w.take k) = none) : numsFrom below 0 w = none := by
  have := numsFrom_more (w.drop k) h
  rwa [List.take_append_drop] at this
theorem itoa_free {n : Int} (h : n.natAbs < 1000) : (47 : UInt8) ∉ itoaL n ∧ (10 : UInt8) ∉ itoaL n ∧ (32 : UInt8) ∉ itoaL n := by
  have key : ∀ c : UInt8, c ≠ 45 → isD c = false → c ∉ itoaL n := by
    intro c hc hd hm
    by_cases h0 : n < 0
    · obtain ⟨k, hk, rfl⟩ : ∃ k : Nat, 1 ≤ k ∧ n = -(k : Int) := ⟨n.natAbs, by omega, by omega⟩
      rw [itoaL_neg hk] at hm
      rcases List.mem_cons.1 hm with h1 | h1
      · exact hc h1
      · rw [natL_isD (by omega) c h1] at hd; cases hd
    · obtain ⟨k, rfl⟩ : ∃ k : Nat, n = k := ⟨n.toNat, by omega⟩
      rw [itoaL_nat] at hm
      rw [natL_isD (by omega) c hm] at hd; cases hd
  exact ⟨key 47 (by decide) (by decide), key 10 (by decide) (by decide), key 32 (by decide) (by decide)⟩
theorem rowW_split {w : List UInt8} {l : List Int} (hw : (47 : UInt8) ∉ w) (hl : ∀ n ∈ l, n.natAbs < 1000) : splitL 47 (rowW w l) = w :: l.map itoaL := by
  unfold rowW
  exact split_join w _ hw fun y hy => by
    obtain ⟨n, hn, rfl⟩ := List.mem_map.1 hy
    exact (itoa_free (hl n hn)).1
theorem rowW_free {w : List UInt8} {l : List Int} (hw : (10 : UInt8) ∉ w) (hl : ∀ n ∈ l, n.natAbs < 1000) : (10 : UInt8) ∉ rowW w l := by
  unfold rowW joinL
  intro hm
  rcases List.mem_append.1 hm with hm | hm
  · exact hw hm
  · obtain ⟨y, hy, hc⟩ := List.mem_flatMap.1 hm
    obtain ⟨n, hn, rfl⟩ := List.mem_map.1 hy
    rcases List.mem_cons.1 hc with h1 | h1
    · exact absurd h1 (by decide)
    · exact (itoa_free (hl n hn)).2.1 h1
/-- A line that was written is read. -/
theorem rowR_of {first : Bool} {at_ : Int} {m : MachP} {w : List UInt8} {l : List Int} (hw : (47 : UInt8) ∉ w) (hl : ∀ n ∈ l, n.natAbs < 1000) (hn : numsFrom (belR w) 0 (l.map itoaL) = some l) (hk : (kindR w).2 = l.length) (h1 : ¬ ((kindR w).1 < at_)) (h2 : at_ ≠ 5) (h3 : decide ((kindR w).1 = 0) = first) :
    rowR first at_ m (rowW w l) = some ((kindR w).1, takeM m (kindR w).1 l) := by
  unfold rowR
  rw [rowW_split hw hl]
  simp only
  unfold numsR
  rw [if_pos (by rw [hk, List.length_map]), hn]
  simp only
  rw [if_neg]
  rintro (h | h | h)
  · exact h1 h
  · exact h2 h
  · exact h h3
theorem goR_map {α : Type} {p : Int} {row : α → List UInt8} {put : MachP → α → MachP} (hp : p ≠ 5) : ∀ (xs : List α) (i : Nat) (at_ : Int) (m : MachP) (rest : List (List UInt8)), (∀ x ∈ xs, ∀ (a : Int) (m : MachP), a ≤ p → rowR false a m (row x) = some (p, put m x)) → 1 ≤ i → at_ ≤ p →
    goR i at_ m (xs.map row ++ rest) = goR (i + xs.length) (if xs = [] then at_ else p) (xs.foldl put m) rest
  | [], i, at_, m, rest, _, _, _ => rfl
  | x :: xs, i, at_, m, rest, h, hi, ha => by
    rw [List.map_cons, List.cons_append]
    rw [goR_cons]
    rw [decide_eq_false (by omega : ¬ i = 0), h x (by simp) at_ m ha]
    simp only
    have ih := goR_map hp xs (i + 1) p (put m x) rest (fun y hy => h y (by simp [hy])) (by omega) (Int.le_refl p)
    rw [ih]
    have e : i + 1 + xs.length = i + (x :: xs).length := by rw [List.length_cons]; omega
    have e1 : (if xs = [] then p else p) = p := by split <;> rfl
    have e2 : (if (x :: xs) = [] then at_ else p) = p := if_neg (by simp)
    rw [e, List.foldl_cons, e1, e2]
theorem goR_rows {m : MachP} (M : MOK m) : goR 0 (-1) m0 (rowsM m) = (0, 5, m) := by
  have q1 := M.rods
  have q2 := M.levers
  have q3 := M.regs
  have q4 := M.travel
  have q5 := M.opn
  unfold rowsM
  rw [goR_cons]
  rw [decide_eq_true (rfl : (0 : Nat) = 0)]
  rw [rowR_of (w := [77]) (l := [m.rods, m.levers, m.regs, m.travel, m.opn]) (by decide) (by intro n hn; simp only [List.mem_cons, List.not_mem_nil, or_false] at hn; omega)
    (numsFrom_small _ (by intro n hn; simp only [List.mem_cons, List.not_mem_nil, or_false] at hn; omega)) rfl (by decide) (by decide) (by decide)]
  show goR 1 0 ⟨m.rods, m.levers, m.regs, m.travel, m.opn, [], [], [], []⟩ _ = _
  rw [goR_map (p := 1) (row := fun r => rowW [66] [r]) (put := fun m r => { m with buttons := m.buttons ++ [r] }) (by decide) m.buttons 1 0 _ _ (fun x hx a mm ha => by
    have := M.btn x hx
    rw [rowR_of (w := [66]) (l := [x]) (by decide) (by intro n hn; simp only [List.mem_cons, List.not_mem_nil, or_false] at hn; omega) (numsFrom_small _ (by intro n hn; simp only [List.mem_cons, List.not_mem_nil, or_false] at hn; omega)) rfl (by show ¬ (1 : Int) < a; omega) (by omega) (by decide)]
    rfl) (by decide) (by decide)]
  have a1 : (if m.buttons = [] then (0 : Int) else 1) ≤ 1 := by split <;> decide
  generalize (if m.buttons = [] then (0 : Int) else 1) = at1 at a1
  rw [goR_map (p := 2) (row := fun p : PinP => rowW [80] [p.rod, p.lever, p.lag]) (put := fun m p => { m with pins := m.pins ++ [p] }) (by decide) m.pins _ at1 _ _ (fun x hx a mm ha => by
    have := M.pin x hx
    rw [rowR_of (w := [80]) (l := [x.rod, x.lever, x.lag]) (by decide) (by intro n hn; simp only [List.mem_cons, List.not_mem_nil, or_false] at hn; omega) (numsFrom_small _ (by intro n hn; simp only [List.mem_cons, List.not_mem_nil, or_false] at hn; omega)) rfl (by show ¬ (2 : Int) < a; omega) (by omega) (by decide)]
    rfl) (by omega) (by omega)]
  have a2 : (if m.pins = [] then at1 else 2) ≤ 2 := by split <;> omega
  generalize (if m.pins = [] then at1 else 2) = at2 at a2
  rw [goR_map (p := 3) (row := fun l : LinkP => rowW [76] [l.frm, l.to, l.reg, l.lag]) (put := fun m p => { m with links := m.links ++ [p] }) (by decide) m.links _ at2 _ _ (fun x hx a mm ha => by
    have := M.link x hx
    rw [rowR_of (w := [76]) (l := [x.frm, x.to, x.reg, x.lag]) (by decide) (by intro n hn; simp only [List.mem_cons, List.not_mem_nil, or_false] at hn; omega) (numsFrom_itoa _ 0 fun j n hn => by
      match j, hn with
      | 0, hn => cases hn; exact .inl (by omega)
      | 1, hn => cases hn; exact .inl (by omega)
      | 2, hn =>
        cases hn
        rcases Int.lt_or_le x.reg 0 with h | h
        · exact .inr ⟨by decide, by omega⟩
        · exact .inl ⟨h, by omega⟩
      | 3, hn => cases hn; exact .inl (by omega)
      | k + 4, hn => cases hn) rfl (by show ¬ (3 : Int) < a; omega) (by omega) (by decide)]
    rfl) (by omega) (by omega)]
  have a3 : (if m.links = [] then at2 else 3) ≤ 3 := by split <;> omega
  generalize (if m.links = [] then at2 else 3) = at3 at a3
  rw [goR_map (p := 4) (row := fun r => rowW [87] [r]) (put := fun m r => { m with weights := m.weights ++ [r] }) (by decide) m.weights _ at3 _ _ (fun x hx a mm ha => by
    have := M.wt x hx
    rw [rowR_of (w := [87]) (l := [x]) (by decide) (by intro n hn; simp only [List.mem_cons, List.not_mem_nil, or_false] at hn; omega) (numsFrom_small _ (by intro n hn; simp only [List.mem_cons, List.not_mem_nil, or_false] at hn; omega)) rfl (by show ¬ (4 : Int) < a; omega) (by omega) (by decide)]
    rfl) (by omega) (by omega)]
  have a4 : (if m.weights = [] then at3 else 4) ≤ 4 := by split <;> omega
  generalize (if m.weights = [] then at3 else 4) = at4 at a4
  have fb : ∀ (xs : List Int) (m : MachP), xs.foldl (fun m r => { m with buttons := m.buttons ++ [r] }) m = { m with buttons := m.buttons ++ xs } := by
    intro xs
    induction xs with
    | nil => intro m; simp
    | cons x xs ih => intro m; rw [List.foldl_cons, ih]; simp
  have fq : ∀ (xs : List PinP) (m : MachP), xs.foldl (fun m r => { m with pins := m.pins ++ [r] }) m = { m with pins := m.pins ++ xs } := by
    intro xs
    induction xs with
    | nil => intro m; simp
    | cons x xs ih => intro m; rw [List.foldl_cons, ih]; simp
  have fl : ∀ (xs : List LinkP) (m : MachP), xs.foldl (fun m r => { m with links := m.links ++ [r] }) m = { m with links := m.links ++ xs } := by
    intro xs
    induction xs with
    | nil => intro m; simp
    | cons x xs ih => intro m; rw [List.foldl_cons, ih]; simp
  have fw : ∀ (xs : List Int) (m : MachP), xs.foldl (fun m r => { m with weights := m.weights ++ [r] }) m = { m with weights := m.weights ++ xs } := by
    intro xs
    induction xs with
    | nil => intro m; simp
    | cons x xs ih => intro m; rw [List.foldl_cons, ih]; simp
  rw [fb, fq, fl, fw]
  simp only [List.nil_append]
  generalize hi : 1 + m.buttons.length + m.pins.length + m.links.length + m.weights.length = i
  rw [goR_cons]
  rw [decide_eq_false (by omega : ¬ i = 0), rowR_of (w := [69]) (l := []) (by decide) (fun _ h => absurd h List.not_mem_nil) rfl rfl (by show ¬ (5 : Int) < at4; omega) (by omega) (by decide)]
  rfl
theorem rowsM_free {m : MachP} (M : MOK m) : ∀ r ∈ rowsM m, (10 : UInt8) ∉ r := by
  have q1 := M.rods
  have q2 := M.levers
  have q3 := M.regs
  have q4 := M.travel
  have q5 := M.opn
  intro r hr
  unfold rowsM at hr
  simp only [List.mem_cons, List.mem_append, List.mem_map, List.not_mem_nil, or_false] at hr
  rcases hr with rfl | ⟨x, hx, rfl⟩ | ⟨x, hx, rfl⟩ | ⟨x, hx, rfl⟩ | ⟨x, hx, rfl⟩ | rfl
  · exact rowW_free (by decide) (by intro n hn; simp only [List.mem_cons, List.not_mem_nil, or_false] at hn; omega)
  · have := M.btn x hx
    exact rowW_free (by decide) (by intro n hn; simp only [List.mem_cons, List.not_mem_nil, or_false] at hn; omega)
  · have := M.pin x hx
    exact rowW_free (by decide) (by intro n hn; simp only [List.mem_cons, List.not_mem_nil, or_false] at hn; omega)
  · have := M.link x hx
    exact rowW_free (by decide) (by intro n hn; simp only [List.mem_cons, List.not_mem_nil, or_false] at hn; omega)
  · have := M.wt x hx
    exact rowW_free (by decide) (by intro n hn; simp only [List.mem_cons, List.not_mem_nil, or_false] at hn; omega)
  · exact rowW_free (by decide) (fun _ h => absurd h List.not_mem_nil)
/-- What is written is read as it was. -/
theorem read_write [Lvl] {m : MachP} (hc : chkM m = 0) (hl : (writeM m).length ≤ 400) : readM (writeM m) = (m, 0, 0) := by
  have M := check_ok hc
  unfold readM
  rw [if_neg (by omega)]
  have e : splitL 10 (writeM m) = rowsM m ++ [[]] := by rw [writeM_lines, split_lines _ (rowsM_free M)]
  simp only [e, List.dropLast_concat, List.getLast?_concat, goR_rows M]
  rw [if_neg (by simp), if_neg (by simp), hc, if_neg (by simp)]
/-- What was read so far. -/
def soFar (m : MachP) (at_ : Int) : List (List UInt8) := if at_ = -1 then [] else rowW [77] [m.rods, m.levers, m.regs, m.travel, m.opn] :: (m.buttons.map (fun r => rowW [66] [r]) ++ (m.pins.map (fun p => rowW [80] [p.rod, p.lever, p.lag]) ++ (m.links.map (fun l => rowW [76] [l.frm, l.to, l.reg, l.lag]) ++ (m.weights.map (fun w => rowW [87] [w]) ++ if at_ = 5 then [rowW [69] []] else []))))
structure Sfar (m : MachP) (at_ : Int) : Prop where
  lo : -1 ≤ at_
  b : at_ < 1 → m.buttons = []
  p : at_ < 2 → m.pins = []
  l : at_ < 3 → m.links = []
  w : at_ < 4 → m.weights = []
theorem row_far {first : Bool} {at_ p : Int} {m m2 : MachP} {row : List UInt8} (S : Sfar m at_) (hf : first = true ↔ at_ = -1) (h : rowR first at_ m row = some (p, m2)) : Sfar m2 p ∧ 0 ≤ p ∧ soFar m at_ ++ [row] = soFar m2 p := by
  have hj := join_split 47 row
  unfold rowR at h
  cases hs : splitL 47 row with
  | nil => exact absurd hs (splitL_ne 47 row)
  | cons w ws =>
    rw [hs] at h hj
    simp only at h
    cases hn : numsR (belR w) (kindR w).2 ws with
    | none => rw [hn] at h; cases h
    | some l =>
      rw [hn] at h
      simp only at h
      split at h
      · cases h
      · rename_i hc
        simp only [not_or, Classical.not_not, ne_eq] at hc
        obtain ⟨c1, c2, c3⟩ := hc
        unfold numsR at hn
        split at hn
        · rename_i hlen
          have e1 := numsFrom_some hn
          have e2 := numsFrom_len hn
          have hrow : row = rowW w l := by rw [← hj, e1]; rfl
          simp only [Option.some.injEq, Prod.mk.injEq] at h
          obtain ⟨hp, hm⟩ := h
          have lo := S.lo
          rw [hlen] at e2
          have hw : w = [77] ∨ w = [66] ∨ w = [80] ∨ w = [76] ∨ w = [87] ∨ w = [69] ∨ (kindR w).1 = -1 := by
            unfold kindR
            by_cases w1 : w = [77]
            · exact .inl w1
            · rw [if_neg w1]
              by_cases w2 : w = [66]
              · exact .inr (.inl w2)
              · rw [if_neg w2]
                by_cases w3 : w = [80]
                · exact .inr (.inr (.inl w3))
                · rw [if_neg w3]
                  by_cases w4 : w = [76]
                  · exact .inr (.inr (.inr (.inl w4)))
                  · rw [if_neg w4]
                    by_cases w5 : w = [87]
                    · exact .inr (.inr (.inr (.inr (.inl w5))))
                    · rw [if_neg w5]
                      by_cases w6 : w = [69]
                      · exact .inr (.inr (.inr (.inr (.inr (.inl w6)))))
                      · rw [if_neg w6]
                        exact .inr (.inr (.inr (.inr (.inr (.inr rfl)))))
          rcases hw with rfl | rfl | rfl | rfl | rfl | rfl | hw
          · have k1 : (kindR [77]).1 = 0 := rfl
            have k2 : (kindR [77]).2 = 5 := rfl
            rw [k1] at c1 c3 hp hm
            rw [k2] at e2
            have ha : at_ = -1 := hf.1 (by rw [← c3]; rfl)
            subst ha hp hrow
            match l, e2 with
            | [a, b, c, d, e], _ =>
              subst hm
              have s1 := S.b (by decide)
              have s2 := S.p (by decide)
              have s3 := S.l (by decide)
              have s4 := S.w (by decide)
              refine ⟨⟨by decide, fun _ => s1, fun _ => s2, fun _ => s3, fun _ => s4⟩, by decide, ?_⟩
              unfold soFar takeM
              simp [s1, s2, s3, s4]
          · have k1 : (kindR [66]).1 = 1 := rfl
            have k2 : (kindR [66]).2 = 1 := rfl
            rw [k1] at c1 c3 hp hm
            rw [k2] at e2
            have ha : at_ ≠ -1 := fun e => by have := hf.2 e; rw [← c3] at this; exact absurd this (by decide)
            subst hp hrow
            match l, e2 with
            | [a], _ =>
              subst hm
              have s2 := S.p (by omega)
              have s3 := S.l (by omega)
              have s4 := S.w (by omega)
              refine ⟨⟨by decide, fun h => absurd h (by decide), fun _ => s2, fun _ => s3, fun _ => s4⟩, by decide, ?_⟩
              unfold soFar takeM
              simp [s2, s3, s4, ha, c2]
          · have k1 : (kindR [80]).1 = 2 := rfl
            have k2 : (kindR [80]).2 = 3 := rfl
            rw [k1] at c1 c3 hp hm
            rw [k2] at e2
            have ha : at_ ≠ -1 := fun e => by have := hf.2 e; rw [← c3] at this; exact absurd this (by decide)
            subst hp hrow
            match l, e2 with
            | [a, b, c], _ =>
              subst hm
              have s3 := S.l (by omega)
              have s4 := S.w (by omega)
              refine ⟨⟨by decide, fun h => absurd h (by decide), fun h => absurd h (by decide), fun _ => s3, fun _ => s4⟩, by decide, ?_⟩
              unfold soFar takeM
              simp [s3, s4, ha, c2]
          · have k1 : (kindR [76]).1 = 3 := rfl
            have k2 : (kindR [76]).2 = 4 := rfl
            rw [k1] at c1 c3 hp hm
            rw [k2] at e2
            have ha : at_ ≠ -1 := fun e => by have := hf.2 e; rw [← c3] at this; exact absurd this (by decide)
            subst hp hrow
            match l, e2 with
            | [a, b, c, d], _ =>
              subst hm
              have s4 := S.w (by omega)
              refine ⟨⟨by decide, fun h => absurd h (by decide), fun h => absurd h (by decide), fun h => absurd h (by decide), fun _ => s4⟩, by decide, ?_⟩
              unfold soFar takeM
              simp [s4, ha, c2]
          · have k1 : (kindR [87]).1 = 4 := rfl
            have k2 : (kindR [87]).2 = 1 := rfl
            rw [k1] at c1 c3 hp hm
            rw [k2] at e2
            have ha : at_ ≠ -1 := fun e => by have := hf.2 e; rw [← c3] at this; exact absurd this (by decide)
            subst hp hrow
            match l, e2 with
            | [a], _ =>
              subst hm
              refine ⟨⟨by decide, fun h => absurd h (by decide), fun h => absurd h (by decide), fun h => absurd h (by decide), fun h => absurd h (by decide)⟩, by decide, ?_⟩
              unfold soFar takeM
              simp [ha, c2]
          · have k1 : (kindR [69]).1 = 5 := rfl
            have k2 : (kindR [69]).2 = 0 := rfl
            rw [k1] at c1 c3 hp hm
            rw [k2] at e2
            have ha : at_ ≠ -1 := fun e => by have := hf.2 e; rw [← c3] at this; exact absurd this (by decide)
            subst hp hrow
            match l, e2 with
            | [], _ =>
              subst hm
              refine ⟨⟨by decide, fun h => absurd h (by decide), fun h => absurd h (by decide), fun h => absurd h (by decide), fun h => absurd h (by decide)⟩, by decide, ?_⟩
              unfold soFar takeM
              simp [ha, c2]
          · rw [hw] at c1 c3
            have : at_ = -1 := by omega
            have := hf.2 this
            rw [← c3] at this
            exact absurd this (by decide)
        · cases hn
theorem go_far : ∀ (rs : List (List UInt8)) (i : Nat) (at_ at2 : Int) (m m2 : MachP), Sfar m at_ → (i = 0 ↔ at_ = -1) → goR i at_ m rs = (0, at2, m2) → soFar m at_ ++ rs = soFar m2 at2
  | [], i, at_, at2, m, m2, _, _, h => by
    simp only [goR, Prod.mk.injEq] at h
    obtain ⟨_, rfl, rfl⟩ := h
    simp
  | r :: rs, i, at_, at2, m, m2, S, hi, h => by
    rw [goR_cons] at h
    cases hr : rowR (decide (i = 0)) at_ m r with
    | none => rw [hr] at h; simp at h
    | some s =>
      obtain ⟨p, m3⟩ := s
      rw [hr] at h
      obtain ⟨S3, p0, e⟩ := row_far S (by rw [decide_eq_true_iff]; exact hi) hr
      have := go_far rs (i + 1) p at2 m3 m2 S3 ⟨fun h => absurd h (by omega), fun h => by omega⟩ h
      rw [← this, ← e]
      simp
/-- What is read is written as it was. -/
theorem write_read {t : List UInt8} {m : MachP} {row : Int} (h : readM t = (m, row, 0)) : chkM m = 0 ∧ writeM m = t := by
  unfold readM at h
  split at h
  · simp at h
  · simp only at h
    split at h
    · simp at h
    · rename_i h0
      split at h
      · simp at h
      · rename_i h1
        split at h
        · rename_i h2
          simp only [Prod.mk.injEq] at h
          exact absurd h.2.2 h2
        · rename_i h2
          simp only [Prod.mk.injEq] at h
          obtain ⟨hm, _, _⟩ := h
          simp only [not_or, Classical.not_not, ne_eq] at h0 h1 h2
          rw [hm] at h2
          refine ⟨h2, ?_⟩
          obtain ⟨g1, g2⟩ := h1
          have hg : goR 0 (-1) m0 (splitL 10 t).dropLast = (0, 5, m) := Prod.ext h0 (Prod.ext g1 hm)
          have hf := go_far _ 0 (-1) 5 m0 m ⟨by decide, fun _ => rfl, fun _ => rfl, fun _ => rfl, fun _ => rfl⟩ (by simp) hg
          have ht := lines_of g2
          rw [writeM_lines, ht]
          congr 1
          have e : soFar m0 (-1) = [] := rfl
          rw [e, List.nil_append] at hf
          rw [hf]
          rfl
end Go.Rd
/- Walks: rod.numbers. Conditions: as each theorem states. -/
namespace Go.Proofs.YtmpahfdiebhdbaaGreatDoor
open Go Go.HL Go.Proofs Go.Wx Go.Rd
section
variable [Lvl]
set_option maxRecDepth 100000
def NumsV (h : AH) (r : Option (List Int)) (v : Value) : Prop := ∃ (A : Option Addr) (n c : Nat), v = .tuple #[.slice A n c, .bool r.isSome] ∧ ∀ l, r = some l → n = l.length ∧ Row h 1 intC A l
theorem atoV_num {w : List UInt8} {n : Int} {e : Value} (a : AtoV w n e) {k : Nat} (h : numR w = some k) : n = k ∧ e = .nilIface := by
  obtain ⟨h1, h2, h3, h4⟩ := of_numR h
  exact a.2.1 (by omega) _ h1
set_option maxHeartbeats 1000000 in
theorem numbers_ok (w : List (List UInt8)) (many : Nat) (below : Int) (A : Option Addr) (c : Nat) (h : AH) (R : Row h 1 strC A w) (PW : Pow h) (ER : Errs h) (hw : ∀ x ∈ w, x.length < 2 ^ 20) (hl : w.length < 2 ^ 20) (hm : many < 100) (hb : -1 ≤ below ∧ below < 100) :
    FnT Tryz.prog 34 #[.slice A w.length c, .int .i64 many, .int .i64 below] h (fun v h' => NumsV h' (numsR below many w) v) := by
  refine call_body Tryz.func34 rfl Tryz.ntmps34 rfl ?_
  refine xp_seq ?_
  refine xp_region rfl ?_
  refine op_pure (pv_assign (v := .slice _ _ _) rfl) ?_
  refine op_pure (pv_assign (v := .bool _) rfl) ?_
  refine xp_seq ?_
  refine xp_seq ?_
  refine xp_region rfl ?_
  refine op_pure (pv_move (v := .slice _ _ _) rfl) ?_
  refine op_pure (pv_len rfl rfl) ?_
  refine op_pure (pv_move (v := .int .i64 _) rfl) ?_
  refine op_pure (pv_of (v := .bool _) rfl) ?_
  refine xp_cond rfl (fun hc => ?_) (fun hc => ?_)
  · skip
    have hc' : ¬ w.length = many := by
      have : ¬ (w.length : Int) = many := by simpa using hc
      omega
    have hn : numsR below many w = none := if_neg hc'
    refine xp_seq ?_
    refine xp_region rfl ?_
    refine op_pure (pv_assign (v := .slice _ _ _) rfl) ?_
    refine op_pure (pv_assign (v := .bool _) rfl) ?_
    refine xp_ret ?_
    refine res_list (vs := [_, _]) Tryz.results34 ⟨resV_tmp rfl rfl, resV_tmp rfl rfl, trivial⟩ fun V => ?_
    exact ⟨(ext_wl V), _, _, _, by rw [hn]; rfl, fun l e => by rw [hn] at e; cases e⟩
  · skip
    have hc' : w.length = many := by
      have : (w.length : Int) = many := by simpa using hc
      omega
    have hn : numsR below many w = numsFrom below 0 w := if_pos hc'
    refine goes_more ?_
    refine goes_norm [_] rfl ?_
    refine xp_skip ?_
    refine xp_seq ?_
    refine xp_region rfl ?_
    refine op_pure (pv_assign (v := .slice _ _ _) rfl) ?_
    refine xp_seq ?_
    refine xp_seq ?_
    refine xp_region rfl ?_
    refine op_pure (pv_move (v := .slice _ _ _) rfl) ?_
    refine op_pure (pv_len rfl rfl) ?_
    refine op_pure (pv_move (v := .int .i64 _) rfl) ?_
    refine xp_block ?_
    refine xp_loopL [6, 7, 8, 9, 10, 11, 12, 19, 20, 21, 22, 23, 24, 25, 26, 27, 28, 29, 30, 31, 32, 33, 34, 35, 36, 37, 38, 39, 40, 41, 42, 43, 44, 45, 46, 47, 48, 49, 50, 51, 52, 53, 54, 55, 56, 57, 58, 59, 60] 1 (α := Nat × Acc × List Int) (fun ⟨k, a, ls⟩ => [(19, .int .i64 k), (8, .slice a.A a.n a.c)]) (fun ⟨k, a, ls⟩ L => L.set 0 (a.p)) (fun ⟨k, a, ls⟩ h_k => k ≤ w.length ∧ numsFrom below 0 (w.take k) = some ls ∧ AccR 3 1 (ls.flatMap intC) a) (fun ⟨k, a, ls⟩ => w.length - k) ((0, acc0, [])) ⟨rfl, rfl, trivial⟩ (rfl) (⟨Nat.zero_le _, rfl, accR0⟩) ?_
    rintro ⟨k, a, ls⟩ T1 h_k E_k J_k
    refine goes_norm [_] rfl ?_
    obtain ⟨K1, K2, KA⟩ := J_k
    have hLk : ls.length = k := by rw [numsFrom_len K2, List.length_take]; omega
    have hfl : (ls.flatMap intC).length = k := by rw [flat_len (m := 1) (fun _ _ => rfl)]; omega
    refine xp_seq ?_
    refine xp_region rfl ?_
    refine op_pure (pv_of (v := .bool _) rfl) ?_
    refine xp_seq ?_
    refine xp_cond rfl (fun hk => ?_) (fun hk => ?_)
    · skip
      have hkl : k < w.length := ltI hk
      have hwl := hw _ (List.getElem_mem hkl)
      have hst := nums_step hkl K2
      obtain ⟨g, off, hA, hcl⟩ := (R.ext E_k).at (by omega) hkl
      refine xp_skip ?_
      refine xp_seq ?_
      refine xp_block ?_
      refine xp_seq ?_
      refine xp_region rfl ?_
      refine op_pure (pv_move (v := .int .i64 _) rfl) ?_
      refine op_pure (pv_indexE rfl hA rfl rfl rfl (by omega) (by omega)) ?_
      refine op_load (v := .string _) rfl rfl ((hcl) 0 _ rfl) ?_
      refine op_pure (pv_assign (v := .int .i64 _) rfl) ?_
      refine op_pure (pv_assign (v := .string _) rfl) ?_
      refine xp_seq ?_
      refine xp_region rfl ?_
      refine op_pure (pv_move (v := .string _) rfl) ?_
      refine op_fn (caps := []) (vs := [.string _]) rfl rfl rfl (Atoi_ok w[k] h_k (ER.ext E_k) hwl) ?_
      rintro _ h1 E1 ⟨n, e, rfl, AV⟩
      refine op_pure (pv_move (v := .tuple #[.int .i64 _, _]) rfl) ?_
      refine op_pure (pv_of (v := .int .i64 _) rfl) ?_
      refine op_pure (pv_of (v := _) rfl) ?_
      refine op_pure (pv_assign (v := .int .i64 _) rfl) ?_
      refine op_pure (pv_assign (v := _) rfl) ?_
      refine xp_seq ?_
      refine xp_cutB [29, 30, 31, 32, 33, 34, 35] 1 (α := Unit) (fun u2 => [(35, .bool (((k : Int) == below) && (decide (w[k] = [45, 49]))))]) (fun u2 L => L) (fun u2 h_u2 => True) ?_ ?_
      · rcases Bool.eq_false_or_eq_true ((k : Int) == below) with hg2 | hg2
        · refine xp_region rfl ?_
          refine op_pure (pv_move (v := .int .i64 _) rfl) ?_
          refine op_pure (pv_move (v := .int .i64 _) rfl) ?_
          refine op_pure (pv_of (v := .bool _) rfl) ?_
          refine op_pure (pv_move (v := .bool _) rfl) ?_
          refine guard_yes rfl hg2 ?_
          refine op_pure (pv_move (v := .string _) rfl) ?_
          refine guard_yes rfl hg2 ?_
          refine op_pure (pv_streq rfl rfl) ?_
          refine op_pure (pv_pickT rfl hg2 (v := .bool _) rfl) ?_
          refine ⟨(), ⟨(by show Value.bool _ = _; rw [hg2]; rfl), trivial⟩, rfl, rfl, (Ext.refl _), fun h3 E3 => by first | trivial | omega | (refine ⟨?_, ?_⟩ <;> omega), ?_⟩
          repeat (first | exact off_refl _ _ | exact off_base _ _ _ | refine off_upd (by decide) ?_ | refine off_updL rfl ?_ | refine off_mix rfl ?_)
        · refine xp_region rfl ?_
          refine op_pure (pv_move (v := .int .i64 _) rfl) ?_
          refine op_pure (pv_move (v := .int .i64 _) rfl) ?_
          refine op_pure (pv_of (v := .bool _) rfl) ?_
          refine op_pure (pv_move (v := .bool _) rfl) ?_
          refine guard_no rfl hg2 ?_
          refine guard_no rfl hg2 ?_
          refine op_pure (pv_pickF rfl hg2 (v := .bool _) rfl) ?_
          refine ⟨(), ⟨(by show Value.bool _ = _; rw [hg2]; rfl), trivial⟩, rfl, rfl, (Ext.refl _), fun h3 E3 => by first | trivial | omega | (refine ⟨?_, ?_⟩ <;> omega), ?_⟩
          repeat (first | exact off_refl _ _ | exact off_base _ _ _ | refine off_upd (by decide) ?_ | refine off_updL rfl ?_ | refine off_mix rfl ?_)
      rintro u2 T3 h_u2 E_u2 J_u2
      refine goes_norm [_] rfl ?_
      refine xp_cond rfl (fun hb1 => ?_) (fun hb1 => ?_)
      · skip
        have hnum : numW (decide ((k : Int) = below)) w[k] = some (-1) := by
          unfold numW
          rw [if_pos]
          simpa using hb1
        rw [hnum] at hst
        refine xp_seq ?_
        refine xp_region rfl ?_
        refine op_pure (pv_move (v := .slice _ _ _) rfl) ?_
        refine op_buildSlice (zc := [_]) (vs := [(0, .int .i64 _)]) (cs := [_]) rfl rfl rfl rfl rfl rfl rfl fun b37 hb37 => ?_
        refine wp_norm [_, _] rfl ?_
        refine op_appendR 0 KA rfl rfl rfl (fun V => rdP V (i := 1) rfl) rfl rfl rfl rfl rfl rfl rfl rfl rfl (by omega) rfl (by rw [hfl]; simp only [List.length_cons, List.length_nil]; omega) fun a2 h4a E4a ha2 => ?_
        refine wp_norm [_, _] rfl ?_
        refine op_pure (pv_assign (v := .slice _ _ _) rfl) ?_
        refine xp_exit ?_
        refine xp_region rfl ?_
        refine op_pure (pv_arith rfl (by omega)) ?_
        refine op_pure (pv_move (v := .int .i64 _) rfl) ?_
        refine ⟨(k + 1, a2, ls ++ [-1]), ⟨rfl, rfl, trivial⟩, rfl, rfl, (Ext.trans (Ext.trans (Ext.trans E_k E1) E_u2) E4a), fun h3 E3 => ⟨hkl, hst, by rw [List.flatMap_append]; exact ha2⟩, by first | omega | (dsimp only; omega), ?_⟩
        repeat (first | exact off_base _ _ _ | refine off_upd (by decide) ?_ | refine off_updL rfl ?_ | refine off_mix rfl ?_)
      · skip
        have hnum : numW (decide ((k : Int) = below)) w[k] = (numR w[k]).map fun n : Nat => (n : Int) := by
          unfold numW
          rw [if_neg]
          simpa using hb1
        rw [hnum] at hst
        refine xp_skip ?_
        refine xp_seq ?_
        refine xp_cutB [39, 40, 41, 42, 43, 44, 45, 46, 47, 48, 49, 50, 51, 52, 53, 54, 55] 1 (α := Unit) (fun u => [(55, .bool (numR w[k]).isNone)]) (fun u L => L) (fun u h_u => True) ?_ ?_
        · skip
          rcases AV.1 with he | ⟨t, p, he⟩
          · skip
            by_cases hn0 : n < 0
            · have hng : decide (n < 0) = true := decide_eq_true hn0
              have hnone : numR w[k] = none := by
                cases q : numR w[k] with
                | none => rfl
                | some m => have := (atoV_num AV q).1; omega
              subst he
              refine xp_region rfl ?_
              refine op_pure (pv_move (v := _) rfl) ?_
              refine op_pure (pv_of (v := .bool _) rfl) ?_
              refine op_pure (pv_move (v := .bool _) rfl) ?_
              refine guard_yes rfl rfl ?_
              refine op_pure (pv_move (v := .int .i64 _) rfl) ?_
              refine guard_yes rfl rfl ?_
              refine op_pure (pv_of (v := .bool _) rfl) ?_
              refine op_pure (pv_pickF rfl rfl (v := .bool _) rfl) ?_
              refine op_pure (pv_move (v := .bool _) rfl) ?_
              refine guard_no rfl hng ?_
              refine guard_no rfl hng ?_
              refine guard_no rfl hng ?_
              refine op_pure (pv_pickT rfl hng (v := .bool _) rfl) ?_
              refine op_pure (pv_move (v := .bool _) rfl) ?_
              refine guard_no rfl rfl ?_
              refine guard_no rfl rfl ?_
              refine guard_no rfl rfl ?_
              refine guard_no rfl rfl ?_
              refine op_pure (pv_pickT rfl rfl (v := .bool _) rfl) ?_
              refine ⟨(), ⟨(by rw [hnone]; rfl), trivial⟩, rfl, rfl, (Ext.refl _), fun h3 E3 => by first | trivial | omega | (refine ⟨?_, ?_⟩ <;> omega), ?_⟩
              repeat (first | exact off_refl _ _ | exact off_base _ _ _ | refine off_upd (by decide) ?_ | refine off_updL rfl ?_ | refine off_mix rfl ?_)
            · skip
              have hng : decide (n < 0) = false := decide_eq_false hn0
              by_cases hl3 : (w[k].length : Int) > 3
              · have hlg : decide ((w[k].length : Int) > 3) = true := decide_eq_true hl3
                have hnone : numR w[k] = none := by
                  unfold numR
                  rw [if_pos (.inr (.inl (by omega)))]
                subst he
                refine xp_region rfl ?_
                refine op_pure (pv_move (v := _) rfl) ?_
                refine op_pure (pv_of (v := .bool _) rfl) ?_
                refine op_pure (pv_move (v := .bool _) rfl) ?_
                refine guard_yes rfl rfl ?_
                refine op_pure (pv_move (v := .int .i64 _) rfl) ?_
                refine guard_yes rfl rfl ?_
                refine op_pure (pv_of (v := .bool _) rfl) ?_
                refine op_pure (pv_pickF rfl rfl (v := .bool _) rfl) ?_
                refine op_pure (pv_move (v := .bool _) rfl) ?_
                refine guard_yes rfl hng ?_
                refine op_pure (pv_move (v := .string _) rfl) ?_
                refine guard_yes rfl hng ?_
                refine op_pure (pv_strlen rfl rfl) ?_
                refine guard_yes rfl hng ?_
                refine op_pure (pv_of (v := .bool _) rfl) ?_
                refine op_pure (pv_pickF rfl hng (v := .bool _) rfl) ?_
                refine op_pure (pv_move (v := .bool _) rfl) ?_
                refine guard_no rfl hlg ?_
                refine guard_no rfl hlg ?_
                refine guard_no rfl hlg ?_
                refine guard_no rfl hlg ?_
                refine op_pure (pv_pickT rfl hlg (v := .bool _) rfl) ?_
                refine ⟨(), ⟨(by rw [hnone]; rfl), trivial⟩, rfl, rfl, (Ext.refl _), fun h3 E3 => by first | trivial | omega | (refine ⟨?_, ?_⟩ <;> omega), ?_⟩
                repeat (first | exact off_refl _ _ | exact off_base _ _ _ | refine off_upd (by decide) ?_ | refine off_updL rfl ?_ | refine off_mix rfl ?_)
              · skip
                have hlg : decide ((w[k].length : Int) > 3) = false := decide_eq_false hl3
                subst he
                obtain ⟨m, hm1⟩ : ∃ m, atoiF w[k] = some m := by
                  cases q : atoiF w[k] with
                  | some m => exact ⟨m, rfl⟩
                  | none => exact absurd rfl (AV.2.2 (by omega) q)
                have hmn := (AV.2.1 (by omega) m hm1).1
                subst hmn
                have hab := atoi_abs hm1
                have hp3 : 10 ^ w[k].length ≤ 10 ^ 3 := Nat.pow_le_pow_right (by decide) (by omega)
                refine xp_region rfl ?_
                refine op_pure (pv_move (v := _) rfl) ?_
                refine op_pure (pv_of (v := .bool _) rfl) ?_
                refine op_pure (pv_move (v := .bool _) rfl) ?_
                refine guard_yes rfl rfl ?_
                refine op_pure (pv_move (v := .int .i64 _) rfl) ?_
                refine guard_yes rfl rfl ?_
                refine op_pure (pv_of (v := .bool _) rfl) ?_
                refine op_pure (pv_pickF rfl rfl (v := .bool _) rfl) ?_
                refine op_pure (pv_move (v := .bool _) rfl) ?_
                refine guard_yes rfl hng ?_
                refine op_pure (pv_move (v := .string _) rfl) ?_
                refine guard_yes rfl hng ?_
                refine op_pure (pv_strlen rfl rfl) ?_
                refine guard_yes rfl hng ?_
                refine op_pure (pv_of (v := .bool _) rfl) ?_
                refine op_pure (pv_pickF rfl hng (v := .bool _) rfl) ?_
                refine op_pure (pv_move (v := .bool _) rfl) ?_
                refine guard_yes rfl hlg ?_
                refine op_pure (pv_move (v := .int .i64 _) rfl) ?_
                refine guard_yes rfl hlg ?_
                refine op_fn (caps := []) (vs := [.int .i64 _]) rfl rfl rfl (itoaE_ok n h_u2 (PW.ext (Ext.trans (Ext.trans E_k E1) E_u2)) (by omega)) ?_
                rintro _ h2 E2 rfl
                refine guard_yes rfl hlg ?_
                refine op_pure (pv_move (v := .string _) rfl) ?_
                refine guard_yes rfl hlg ?_
                refine op_pure (pv_strne rfl rfl) ?_
                refine op_pure (pv_pickF rfl hlg (v := .bool _) rfl) ?_
                have hfin : Value.bool (!decide (itoaL n = w[k])) = Value.bool (numR w[k]).isNone := by
                  by_cases hi : itoaL n = w[k]
                  · rw [decide_eq_true hi, numR_of hm1 (by omega) (by omega) hi]; rfl
                  · rw [decide_eq_false hi]
                    cases q : numR w[k] with
                    | none => rfl
                    | some m =>
                      have h1 := of_numR q
                      have h2 := (atoV_num AV q).1
                      subst h2
                      exact absurd h1.2.2.1 hi
                refine ⟨(), ⟨hfin, trivial⟩, rfl, rfl, E2, fun h3 E3 => by first | trivial | omega | (refine ⟨?_, ?_⟩ <;> omega), ?_⟩
                repeat (first | exact off_refl _ _ | exact off_base _ _ _ | refine off_upd (by decide) ?_ | refine off_updL rfl ?_ | refine off_mix rfl ?_)
          · skip
            have hnone : numR w[k] = none := by
              cases q : numR w[k] with
              | none => rfl
              | some m => have := (atoV_num AV q).2; rw [he] at this; cases this
            subst he
            refine xp_region rfl ?_
            refine op_pure (pv_move (v := _) rfl) ?_
            refine op_pure (pv_of (v := .bool _) rfl) ?_
            refine op_pure (pv_move (v := .bool _) rfl) ?_
            refine guard_no rfl rfl ?_
            refine guard_no rfl rfl ?_
            refine op_pure (pv_pickT rfl rfl (v := .bool _) rfl) ?_
            refine op_pure (pv_move (v := .bool _) rfl) ?_
            refine guard_no rfl rfl ?_
            refine guard_no rfl rfl ?_
            refine guard_no rfl rfl ?_
            refine op_pure (pv_pickT rfl rfl (v := .bool _) rfl) ?_
            refine op_pure (pv_move (v := .bool _) rfl) ?_
            refine guard_no rfl rfl ?_
            refine guard_no rfl rfl ?_
            refine guard_no rfl rfl ?_
            refine guard_no rfl rfl ?_
            refine op_pure (pv_pickT rfl rfl (v := .bool _) rfl) ?_
            refine ⟨(), ⟨(by rw [hnone]; rfl), trivial⟩, rfl, rfl, (Ext.refl _), fun h3 E3 => by first | trivial | omega | (refine ⟨?_, ?_⟩ <;> omega), ?_⟩
            repeat (first | exact off_refl _ _ | exact off_base _ _ _ | refine off_upd (by decide) ?_ | refine off_updL rfl ?_ | refine off_mix rfl ?_)
        · rintro u T5 h_u E_u J_u
          refine goes_norm [_] rfl ?_
          refine xp_cond rfl (fun hbad => ?_) (fun hbad => ?_)
          · skip
            have hnone : numR w[k] = none := by simpa using hbad
            have hnn : numsR below many w = none := by rw [hn]; exact nums_stop (k := k + 1) (by rw [hst, hnone]; rfl)
            refine xp_seq ?_
            refine xp_region rfl ?_
            refine op_pure (pv_assign (v := .slice _ _ _) rfl) ?_
            refine op_pure (pv_assign (v := .bool _) rfl) ?_
            refine xp_ret ?_
            refine res_list (vs := [_, _]) Tryz.results34 ⟨resV_tmp rfl rfl, resV_tmp rfl rfl, trivial⟩ fun V => ?_
            exact ⟨(Ext.trans (Ext.trans (Ext.trans (Ext.trans E_k E1) E_u2) E_u) (ext_wl V)), _, _, _, by rw [hnn]; rfl, fun l e => by rw [hnn] at e; cases e⟩
          · skip
            obtain ⟨m, hm1⟩ : ∃ m, numR w[k] = some m := by
              cases q : numR w[k] with
              | some m => exact ⟨m, rfl⟩
              | none => rw [q] at hbad; cases hbad
            obtain ⟨hmn, _⟩ := atoV_num AV hm1
            subst hmn
            rw [hm1] at hst
            refine xp_skip ?_
            refine xp_region rfl ?_
            refine op_pure (pv_move (v := .slice _ _ _) rfl) ?_
            refine op_pure (pv_move (v := .int .i64 _) rfl) ?_
            refine op_buildSlice (zc := [_]) (vs := [(0, .int .i64 _)]) (cs := [_]) rfl rfl rfl rfl rfl rfl rfl fun b58 hb58 => ?_
            refine wp_norm [_, _] rfl ?_
            refine op_appendR 0 KA rfl rfl rfl (fun V => rdP V (i := 1) rfl) rfl rfl rfl rfl rfl rfl rfl rfl rfl (by omega) rfl (by rw [hfl]; simp only [List.length_cons, List.length_nil]; omega) fun a2 h6a E6a ha2 => ?_
            refine wp_norm [_, _] rfl ?_
            refine op_pure (pv_assign (v := .slice _ _ _) rfl) ?_
            refine xp_region rfl ?_
            refine op_pure (pv_arith rfl (by omega)) ?_
            refine op_pure (pv_move (v := .int .i64 _) rfl) ?_
            refine ⟨(k + 1, a2, ls ++ [(m : Int)]), ⟨rfl, rfl, trivial⟩, rfl, rfl, (Ext.trans (Ext.trans (Ext.trans (Ext.trans E_k E1) E_u2) E_u) E6a), fun h3 E3 => ⟨hkl, hst, by rw [List.flatMap_append]; exact ha2⟩, by first | omega | (dsimp only; omega), ?_⟩
            repeat (first | exact off_base _ _ _ | refine off_upd (by decide) ?_ | refine off_updL rfl ?_ | refine off_mix rfl ?_)
    · skip
      have hke : k = w.length := by have := geI hk; omega
      subst hke
      rw [List.take_length] at K2
      refine xp_exit ?_
      refine xp_seq ?_
      refine xp_region rfl ?_
      refine op_pure (pv_move (v := .slice _ _ _) rfl) ?_
      refine op_pure (pv_assign (v := .slice _ _ _) rfl) ?_
      refine op_pure (pv_assign (v := .bool _) rfl) ?_
      refine xp_ret ?_
      refine res_list (vs := [_, _]) Tryz.results34 ⟨resV_tmp rfl rfl, resV_tmp rfl rfl, trivial⟩ fun V => ?_
      obtain ⟨A9, c9, e9, R9⟩ := AccP.row (m := 1) (enc := intC) (i := 0) (l := ls) KA (by omega) (fun _ _ => rfl) V rfl
      exact ⟨(Ext.trans E_k (ext_wl V)), A9, ls.length, c9, by rw [hn, K2, ← e9]; rfl, fun l e => by rw [hn, K2] at e; cases e; exact ⟨rfl, R9⟩⟩
end
end Go.Proofs.YtmpahfdiebhdbaaGreatDoor
/- Walks: rod.take. Conditions: as each theorem states. -/
namespace Go.Proofs.YtmpahfdiebhdbaaGreatDoor
open Go Go.HL Go.Proofs Go.Wx Go.Rd
structure MAcc where
  aB : Acc
  aQ : Acc
  aL : Acc
  aW : Acc
abbrev mCells (m : MachP) (x : MAcc) : List Value := [.int .i64 m.rods, .int .i64 m.levers, .int .i64 m.regs, .int .i64 m.travel, .int .i64 m.opn, .slice x.aB.A x.aB.n x.aB.c, .slice x.aQ.A x.aQ.n x.aQ.c, .slice x.aL.A x.aL.n x.aL.c, .slice x.aW.A x.aW.n x.aW.c]
abbrev mPv (bm : Nat) (m : MachP) (x : MAcc) : Pv := [some (bm, .cells (mCells m x).toArray 26 (0, 0)), x.aB.p, x.aQ.p, x.aL.p, x.aW.p]
structure AccM (m : MachP) (x : MAcc) : Prop where
  b : AccR 3 1 (m.buttons.flatMap intC) x.aB
  q : AccR 65 3 (m.pins.flatMap pinC) x.aQ
  l : AccR 67 4 (m.links.flatMap linkC) x.aL
  w : AccR 3 1 (m.weights.flatMap intC) x.aW
structure LenM (m : MachP) (k : Nat) : Prop where
  b : m.buttons.length ≤ k
  q : m.pins.length ≤ k
  l : m.links.length ≤ k
  w : m.weights.length ≤ k
section
variable [Lvl]
set_option maxRecDepth 100000
set_option maxHeartbeats 2000000 in
theorem take_ok (bm : Nat) (m : MachP) (x : MAcc) (w : List UInt8) (ws : List (List UInt8)) (A : Option Addr) (c k : Nat) (h : AH) (R : Row h 1 strC A ws) (PW : Pow h) (ER : Errs h) (hw : ∀ x ∈ ws, x.length < 2 ^ 20) (hl : ws.length < 2 ^ 20) (AM : AccM m x) (LM : LenM m k) (hk : k < 2 ^ 18) (hkd : 1 ≤ (kindR w).1) :
    FnM Tryz.prog (.func (.func 36) #[] ([] : List Value).toArray) [.pointer (some ⟨bm, 0, none⟩), .string (bs w), .slice A ws.length c] h (mPv bm m x)
    (fun v h' M' => v = .bool (numsR (belR w) (kindR w).2 ws).isSome ∧ ∃ x', M' = mPv bm (match numsR (belR w) (kindR w).2 ws with | some l => takeM m (kindR w).1 l | none => m) x' ∧ AccM (match numsR (belR w) (kindR w).2 ws with | some l => takeM m (kindR w).1 l | none => m) x') := by
  have lb := LM.b
  have lq := LM.q
  have ll := LM.l
  have lw := LM.w
  refine fnM_body rfl rfl Tryz.func36 rfl Tryz.ntmps36 rfl ?_
  refine xp_seq ?_
  refine xp_region rfl ?_
  refine op_pure (pv_assign (v := .bool _) rfl) ?_
  refine xp_seq ?_
  refine xp_region rfl ?_
  refine op_pure (pv_assign (v := .slice _ _ _) rfl) ?_
  refine xp_seq ?_
  refine xp_region rfl ?_
  refine op_pure (pv_assign (v := .bool _) rfl) ?_
  refine xp_seq ?_
  refine xp_seq ?_
  refine xp_region rfl ?_
  refine op_pure (pv_move (v := .string _) rfl) ?_
  refine xp_block ?_
  refine xp_seq ?_
  refine xp_region rfl ?_
  refine op_pure (pv_streq rfl rfl) ?_
  refine op_pure (pv_assign (v := .bool _) rfl) ?_
  refine xp_cond rfl (fun h66 => ?_) (fun h66 => ?_)
  · skip
    have hw' : w = [66] := of_decide_eq_true h66
    subst hw'
    refine xp_seq ?_
    refine xp_region rfl ?_
    refine op_pure (pv_move (v := .slice _ _ _) rfl) ?_
    refine op_fn (caps := []) (vs := [.slice _ _ _, .int .i64 _, .int .i64 _]) rfl rfl rfl (numbers_ok ws 1 (-1) A c h (R.ext (Ext.refl _)) (PW.ext (Ext.refl _)) (ER.ext (Ext.refl _)) hw hl (by decide) (by decide)) ?_
    rintro _ h2 E2 ⟨A2, n2, c2, rfl, hR⟩
    refine op_pure (pv_move (v := .tuple #[.slice _ _ _, .bool _]) rfl) ?_
    refine op_pure (pv_of (v := .slice _ _ _) rfl) ?_
    refine op_pure (pv_of (v := .bool _) rfl) ?_
    refine op_pure (pv_assign (v := .slice _ _ _) rfl) ?_
    refine op_pure (pv_assign (v := .bool _) rfl) ?_
    refine xp_seq ?_
    refine xp_region rfl ?_
    refine op_pure (pv_move (v := .bool _) rfl) ?_
    refine xp_cond rfl (fun hi => ?_) (fun hi => ?_)
    · skip
      obtain ⟨l, hnl⟩ := Option.isSome_iff_exists.1 hi
      obtain ⟨rfl, RA⟩ := hR l hnl
      have hll : l.length = 1 := by
        unfold numsR at hnl
        split at hnl
        · rename_i hlen; rw [numsFrom_len hnl, hlen]
        · cases hnl
      have e1 : numsR (belR [66]) (kindR [66]).2 ws = some l := hnl
      match l, hll with
      | [a], _ =>
        obtain ⟨g0, f0, hA0, hc0⟩ := RA.at (by decide) (i := 0) (by simp)
        refine xp_dw [] rfl rfl rfl ?_
        refine dw_pure (i := 0) rfl (by decide +kernel) (pv_move (v := .pointer (some ⟨bm, 0, none⟩)) rfl) ?_
        refine dw_pure (i := 1) rfl (by decide +kernel) (pv_move (v := .pointer (some ⟨bm, 0, none⟩)) rfl) ?_
        refine dw_pure (i := 2) rfl (by decide +kernel) (pv_of (v := .pointer (some ⟨bm, 0, none⟩)) rfl) ?_
        refine dw_pure (i := 3) rfl (by decide +kernel) (pv_fieldAddr rfl rfl rfl rfl 5 rfl) ?_
        refine dw_load (i := 4) rfl (by decide +kernel) ?_
        refine op_loadP 0 (v := .slice _ _ _) rfl rfl rfl rfl ?_
        refine dw_pure (i := 5) rfl (by decide +kernel) (pv_move (v := .slice _ _ _) rfl) ?_
        refine dw_pure (i := 6) rfl (by decide +kernel) (pv_indexE rfl hA0 rfl rfl rfl (by simp) (by simp)) ?_
        refine dw_load (i := 7) rfl (by decide +kernel) ?_
        refine op_load (v := .int .i64 _) rfl rfl ((hc0) 0 _ rfl) ?_
        refine dw_eff (i := 8) rfl (by decide +kernel) ?_
        refine op_buildSlice (zc := [_]) (vs := [(0, .int .i64 _)]) (cs := [_]) rfl rfl rfl rfl rfl rfl rfl fun b26 hb26 => ?_
        refine ⟨ext_new hb26 _, ?_⟩
        refine dw_norm [_, _, _, _, _, _] rfl ?_
        refine dw_last (i := 9) rfl (by decide +kernel) (by decide +kernel) ?_
        refine op_appendR 1 AM.b rfl rfl rfl (fun V => rdP V (i := 5) rfl) rfl rfl rfl rfl rfl rfl rfl rfl rfl (by omega) rfl (by rw [flat_len (m := 1) (fun _ _ => rfl)]; simp only [List.length_cons, List.length_nil]; omega) fun a2 h1a E1a ha2 => ?_
        refine dw_norm [_, _, _, _, _, _] rfl ?_
        refine dw_pure (i := 10) rfl (by decide +kernel) (pv_of (v := .pointer (some ⟨bm, 0, none⟩)) rfl) ?_
        refine dw_pure (i := 11) rfl (by decide +kernel) (pv_fieldAddr rfl rfl rfl rfl 5 rfl) ?_
        refine dw_last (i := 12) rfl (by decide +kernel) (by decide +kernel) ?_
        refine op_storeP 0 (v := .slice _ _ _) (vs := [_]) (c' := [_, _, _, _, _, _, _, _, _]) rfl rfl rfl rfl rfl rfl rfl rfl rfl ?_
        refine dw_norm [_, _, _, _, _, _] rfl ?_
        refine dw_end rfl ?_
        refine xp_seq ?_
        refine xp_region rfl ?_
        refine op_pure (pv_move (v := .bool _) rfl) ?_
        refine op_pure (pv_assign (v := .bool _) rfl) ?_
        refine xp_ret ?_
        refine res_list (vs := [_]) Tryz.results36 ⟨resV_tmp rfl rfl, trivial⟩ fun V => ?_
        obtain ⟨h9, E9, e9, V9⟩ := wl_drop [_] [_, _, _, _, _] V
        refine ⟨h9, _, e9, V9, Ext.trans (Ext.trans E2 E1a) E9, rfl, ⟨a2, x.aQ, x.aL, x.aW⟩, by rw [e1]; rfl, ?_⟩
        rw [e1]
        exact ⟨by show AccR _ 1 ((m.buttons ++ [_]).flatMap intC) a2; rw [List.flatMap_append]; exact ha2, AM.q, AM.l, AM.w⟩
    · skip
      have e0 : numsR (-1) 1 ws = none := by simpa using hi
      have e1 : numsR (belR [66]) (kindR [66]).2 ws = none := e0
      refine xp_skip ?_
      refine xp_seq ?_
      refine xp_region rfl ?_
      refine op_pure (pv_move (v := .bool _) rfl) ?_
      refine op_pure (pv_assign (v := .bool _) rfl) ?_
      refine xp_ret ?_
      refine res_list (vs := [_]) Tryz.results36 ⟨resV_tmp rfl rfl, trivial⟩ fun V => ?_
      exact ⟨_, _, rfl, V, E2, rfl, x, by rw [e1], by rw [e1]; exact AM⟩
  · skip
    have n66 : ¬ w = [66] := of_decide_eq_false h66
    refine xp_seq ?_
    refine xp_region rfl ?_
    refine op_pure (pv_streq rfl rfl) ?_
    refine op_pure (pv_assign (v := .bool _) rfl) ?_
    refine xp_cond rfl (fun h80 => ?_) (fun h80 => ?_)
    · skip
      have hw' : w = [80] := of_decide_eq_true h80
      subst hw'
      refine xp_seq ?_
      refine xp_region rfl ?_
      refine op_pure (pv_move (v := .slice _ _ _) rfl) ?_
      refine op_fn (caps := []) (vs := [.slice _ _ _, .int .i64 _, .int .i64 _]) rfl rfl rfl (numbers_ok ws 3 (-1) A c h (R.ext (Ext.refl _)) (PW.ext (Ext.refl _)) (ER.ext (Ext.refl _)) hw hl (by decide) (by decide)) ?_
      rintro _ h2 E2 ⟨A2, n2, c2, rfl, hR⟩
      refine op_pure (pv_move (v := .tuple #[.slice _ _ _, .bool _]) rfl) ?_
      refine op_pure (pv_of (v := .slice _ _ _) rfl) ?_
      refine op_pure (pv_of (v := .bool _) rfl) ?_
      refine op_pure (pv_assign (v := .slice _ _ _) rfl) ?_
      refine op_pure (pv_assign (v := .bool _) rfl) ?_
      refine xp_seq ?_
      refine xp_region rfl ?_
      refine op_pure (pv_move (v := .bool _) rfl) ?_
      refine xp_cond rfl (fun hi => ?_) (fun hi => ?_)
      · skip
        obtain ⟨l, hnl⟩ := Option.isSome_iff_exists.1 hi
        obtain ⟨rfl, RA⟩ := hR l hnl
        have hll : l.length = 3 := by
          unfold numsR at hnl
          split at hnl
          · rename_i hlen; rw [numsFrom_len hnl, hlen]
          · cases hnl
        have e1 : numsR (belR [80]) (kindR [80]).2 ws = some l := hnl
        match l, hll with
        | [a, b, c], _ =>
          obtain ⟨g0, f0, hA0, hc0⟩ := RA.at (by decide) (i := 0) (by simp)
          obtain ⟨g1, f1, hA1, hc1⟩ := RA.at (by decide) (i := 1) (by simp)
          obtain ⟨g2, f2, hA2, hc2⟩ := RA.at (by decide) (i := 2) (by simp)
          refine xp_dw [] rfl rfl rfl ?_
          refine dw_pure (i := 0) rfl (by decide +kernel) (pv_move (v := .pointer (some ⟨bm, 0, none⟩)) rfl) ?_
          refine dw_pure (i := 1) rfl (by decide +kernel) (pv_move (v := .pointer (some ⟨bm, 0, none⟩)) rfl) ?_
          refine dw_pure (i := 2) rfl (by decide +kernel) (pv_of (v := .pointer (some ⟨bm, 0, none⟩)) rfl) ?_
          refine dw_pure (i := 3) rfl (by decide +kernel) (pv_fieldAddr rfl rfl rfl rfl 6 rfl) ?_
          refine dw_load (i := 4) rfl (by decide +kernel) ?_
          refine op_loadP 0 (v := .slice _ _ _) rfl rfl rfl rfl ?_
          refine dw_pure (i := 5) rfl (by decide +kernel) (pv_move (v := .slice _ _ _) rfl) ?_
          refine dw_pure (i := 6) rfl (by decide +kernel) (pv_indexE rfl hA0 rfl rfl rfl (by simp) (by simp)) ?_
          refine dw_load (i := 7) rfl (by decide +kernel) ?_
          refine op_load (v := .int .i64 _) rfl rfl ((hc0) 0 _ rfl) ?_
          refine dw_pure (i := 8) rfl (by decide +kernel) (pv_move (v := .slice _ _ _) rfl) ?_
          refine dw_pure (i := 9) rfl (by decide +kernel) (pv_indexE rfl hA1 rfl rfl rfl (by simp) (by simp)) ?_
          refine dw_load (i := 10) rfl (by decide +kernel) ?_
          refine op_load (v := .int .i64 _) rfl rfl ((hc1) 0 _ rfl) ?_
          refine dw_pure (i := 11) rfl (by decide +kernel) (pv_move (v := .slice _ _ _) rfl) ?_
          refine dw_pure (i := 12) rfl (by decide +kernel) (pv_indexE rfl hA2 rfl rfl rfl (by simp) (by simp)) ?_
          refine dw_load (i := 13) rfl (by decide +kernel) ?_
          refine op_load (v := .int .i64 _) rfl rfl ((hc2) 0 _ rfl) ?_
          refine dw_pure (i := 14) rfl (by decide +kernel) (pv_build (zc := [_, _, _]) (vs := [(0, .int .i64 _), (1, .int .i64 _), (2, .int .i64 _)]) (cs := [_, _, _]) rfl rfl rfl rfl rfl rfl) ?_
          refine dw_eff (i := 15) rfl (by decide +kernel) ?_
          refine op_buildSlice (zc := [_, _, _]) (vs := [(0, .agg #[.int .i64 _, .int .i64 _, .int .i64 _])]) (cs := [_, _, _]) rfl rfl rfl rfl rfl rfl rfl fun b53 hb53 => ?_
          refine ⟨ext_new hb53 _, ?_⟩
          refine dw_norm [_, _, _, _, _, _] rfl ?_
          refine dw_last (i := 16) rfl (by decide +kernel) (by decide +kernel) ?_
          refine op_appendR 2 AM.q rfl rfl rfl (fun V => rdP V (i := 5) rfl) rfl rfl rfl rfl rfl rfl rfl rfl rfl (by omega) rfl (by rw [flat_len (m := 3) (fun _ _ => rfl)]; simp only [List.length_cons, List.length_nil]; omega) fun a2 h2a E2a ha2 => ?_
          refine dw_norm [_, _, _, _, _, _] rfl ?_
          refine dw_pure (i := 17) rfl (by decide +kernel) (pv_of (v := .pointer (some ⟨bm, 0, none⟩)) rfl) ?_
          refine dw_pure (i := 18) rfl (by decide +kernel) (pv_fieldAddr rfl rfl rfl rfl 6 rfl) ?_
          refine dw_last (i := 19) rfl (by decide +kernel) (by decide +kernel) ?_
          refine op_storeP 0 (v := .slice _ _ _) (vs := [_]) (c' := [_, _, _, _, _, _, _, _, _]) rfl rfl rfl rfl rfl rfl rfl rfl rfl ?_
          refine dw_norm [_, _, _, _, _, _] rfl ?_
          refine dw_end rfl ?_
          refine xp_seq ?_
          refine xp_region rfl ?_
          refine op_pure (pv_move (v := .bool _) rfl) ?_
          refine op_pure (pv_assign (v := .bool _) rfl) ?_
          refine xp_ret ?_
          refine res_list (vs := [_]) Tryz.results36 ⟨resV_tmp rfl rfl, trivial⟩ fun V => ?_
          obtain ⟨h9, E9, e9, V9⟩ := wl_drop [_] [_, _, _, _, _] V
          refine ⟨h9, _, e9, V9, Ext.trans (Ext.trans E2 E2a) E9, rfl, ⟨x.aB, a2, x.aL, x.aW⟩, by rw [e1]; rfl, ?_⟩
          rw [e1]
          exact ⟨AM.b, by show AccR _ 3 ((m.pins ++ [_]).flatMap pinC) a2; rw [List.flatMap_append]; exact ha2, AM.l, AM.w⟩
      · skip
        have e0 : numsR (-1) 3 ws = none := by simpa using hi
        have e1 : numsR (belR [80]) (kindR [80]).2 ws = none := e0
        refine xp_skip ?_
        refine xp_seq ?_
        refine xp_region rfl ?_
        refine op_pure (pv_move (v := .bool _) rfl) ?_
        refine op_pure (pv_assign (v := .bool _) rfl) ?_
        refine xp_ret ?_
        refine res_list (vs := [_]) Tryz.results36 ⟨resV_tmp rfl rfl, trivial⟩ fun V => ?_
        exact ⟨_, _, rfl, V, E2, rfl, x, by rw [e1], by rw [e1]; exact AM⟩
    · skip
      have n80 : ¬ w = [80] := of_decide_eq_false h80
      refine xp_seq ?_
      refine xp_region rfl ?_
      refine op_pure (pv_streq rfl rfl) ?_
      refine op_pure (pv_assign (v := .bool _) rfl) ?_
      refine xp_cond rfl (fun h76 => ?_) (fun h76 => ?_)
      · skip
        have hw' : w = [76] := of_decide_eq_true h76
        subst hw'
        refine xp_seq ?_
        refine xp_region rfl ?_
        refine op_pure (pv_move (v := .slice _ _ _) rfl) ?_
        refine op_fn (caps := []) (vs := [.slice _ _ _, .int .i64 _, .int .i64 _]) rfl rfl rfl (numbers_ok ws 4 (2) A c h (R.ext (Ext.refl _)) (PW.ext (Ext.refl _)) (ER.ext (Ext.refl _)) hw hl (by decide) (by decide)) ?_
        rintro _ h2 E2 ⟨A2, n2, c2, rfl, hR⟩
        refine op_pure (pv_move (v := .tuple #[.slice _ _ _, .bool _]) rfl) ?_
        refine op_pure (pv_of (v := .slice _ _ _) rfl) ?_
        refine op_pure (pv_of (v := .bool _) rfl) ?_
        refine op_pure (pv_assign (v := .slice _ _ _) rfl) ?_
        refine op_pure (pv_assign (v := .bool _) rfl) ?_
        refine xp_seq ?_
        refine xp_region rfl ?_
        refine op_pure (pv_move (v := .bool _) rfl) ?_
        refine xp_cond rfl (fun hi => ?_) (fun hi => ?_)
        · skip
          obtain ⟨l, hnl⟩ := Option.isSome_iff_exists.1 hi
          obtain ⟨rfl, RA⟩ := hR l hnl
          have hll : l.length = 4 := by
            unfold numsR at hnl
            split at hnl
            · rename_i hlen; rw [numsFrom_len hnl, hlen]
            · cases hnl
          have e1 : numsR (belR [76]) (kindR [76]).2 ws = some l := hnl
          match l, hll with
          | [a, b, c, d], _ =>
            obtain ⟨g0, f0, hA0, hc0⟩ := RA.at (by decide) (i := 0) (by simp)
            obtain ⟨g1, f1, hA1, hc1⟩ := RA.at (by decide) (i := 1) (by simp)
            obtain ⟨g2, f2, hA2, hc2⟩ := RA.at (by decide) (i := 2) (by simp)
            obtain ⟨g3, f3, hA3, hc3⟩ := RA.at (by decide) (i := 3) (by simp)
            refine xp_dw [] rfl rfl rfl ?_
            refine dw_pure (i := 0) rfl (by decide +kernel) (pv_move (v := .pointer (some ⟨bm, 0, none⟩)) rfl) ?_
            refine dw_pure (i := 1) rfl (by decide +kernel) (pv_move (v := .pointer (some ⟨bm, 0, none⟩)) rfl) ?_
            refine dw_pure (i := 2) rfl (by decide +kernel) (pv_of (v := .pointer (some ⟨bm, 0, none⟩)) rfl) ?_
            refine dw_pure (i := 3) rfl (by decide +kernel) (pv_fieldAddr rfl rfl rfl rfl 7 rfl) ?_
            refine dw_load (i := 4) rfl (by decide +kernel) ?_
            refine op_loadP 0 (v := .slice _ _ _) rfl rfl rfl rfl ?_
            refine dw_pure (i := 5) rfl (by decide +kernel) (pv_move (v := .slice _ _ _) rfl) ?_
            refine dw_pure (i := 6) rfl (by decide +kernel) (pv_indexE rfl hA0 rfl rfl rfl (by simp) (by simp)) ?_
            refine dw_load (i := 7) rfl (by decide +kernel) ?_
            refine op_load (v := .int .i64 _) rfl rfl ((hc0) 0 _ rfl) ?_
            refine dw_pure (i := 8) rfl (by decide +kernel) (pv_move (v := .slice _ _ _) rfl) ?_
            refine dw_pure (i := 9) rfl (by decide +kernel) (pv_indexE rfl hA1 rfl rfl rfl (by simp) (by simp)) ?_
            refine dw_load (i := 10) rfl (by decide +kernel) ?_
            refine op_load (v := .int .i64 _) rfl rfl ((hc1) 0 _ rfl) ?_
            refine dw_pure (i := 11) rfl (by decide +kernel) (pv_move (v := .slice _ _ _) rfl) ?_
            refine dw_pure (i := 12) rfl (by decide +kernel) (pv_indexE rfl hA2 rfl rfl rfl (by simp) (by simp)) ?_
            refine dw_load (i := 13) rfl (by decide +kernel) ?_
            refine op_load (v := .int .i64 _) rfl rfl ((hc2) 0 _ rfl) ?_
            refine dw_pure (i := 14) rfl (by decide +kernel) (pv_move (v := .slice _ _ _) rfl) ?_
            refine dw_pure (i := 15) rfl (by decide +kernel) (pv_indexE rfl hA3 rfl rfl rfl (by simp) (by simp)) ?_
            refine dw_load (i := 16) rfl (by decide +kernel) ?_
            refine op_load (v := .int .i64 _) rfl rfl ((hc3) 0 _ rfl) ?_
            refine dw_pure (i := 17) rfl (by decide +kernel) (pv_build (zc := [_, _, _, _]) (vs := [(0, .int .i64 _), (1, .int .i64 _), (2, .int .i64 _), (3, .int .i64 _)]) (cs := [_, _, _, _]) rfl rfl rfl rfl rfl rfl) ?_
            refine dw_eff (i := 18) rfl (by decide +kernel) ?_
            refine op_buildSlice (zc := [_, _, _, _]) (vs := [(0, .agg #[.int .i64 _, .int .i64 _, .int .i64 _, .int .i64 _])]) (cs := [_, _, _, _]) rfl rfl rfl rfl rfl rfl rfl fun b83 hb83 => ?_
            refine ⟨ext_new hb83 _, ?_⟩
            refine dw_norm [_, _, _, _, _, _] rfl ?_
            refine dw_last (i := 19) rfl (by decide +kernel) (by decide +kernel) ?_
            refine op_appendR 3 AM.l rfl rfl rfl (fun V => rdP V (i := 5) rfl) rfl rfl rfl rfl rfl rfl rfl rfl rfl (by omega) rfl (by rw [flat_len (m := 4) (fun _ _ => rfl)]; simp only [List.length_cons, List.length_nil]; omega) fun a2 h3a E3a ha2 => ?_
            refine dw_norm [_, _, _, _, _, _] rfl ?_
            refine dw_pure (i := 20) rfl (by decide +kernel) (pv_of (v := .pointer (some ⟨bm, 0, none⟩)) rfl) ?_
            refine dw_pure (i := 21) rfl (by decide +kernel) (pv_fieldAddr rfl rfl rfl rfl 7 rfl) ?_
            refine dw_last (i := 22) rfl (by decide +kernel) (by decide +kernel) ?_
            refine op_storeP 0 (v := .slice _ _ _) (vs := [_]) (c' := [_, _, _, _, _, _, _, _, _]) rfl rfl rfl rfl rfl rfl rfl rfl rfl ?_
            refine dw_norm [_, _, _, _, _, _] rfl ?_
            refine dw_end rfl ?_
            refine xp_seq ?_
            refine xp_region rfl ?_
            refine op_pure (pv_move (v := .bool _) rfl) ?_
            refine op_pure (pv_assign (v := .bool _) rfl) ?_
            refine xp_ret ?_
            refine res_list (vs := [_]) Tryz.results36 ⟨resV_tmp rfl rfl, trivial⟩ fun V => ?_
            obtain ⟨h9, E9, e9, V9⟩ := wl_drop [_] [_, _, _, _, _] V
            refine ⟨h9, _, e9, V9, Ext.trans (Ext.trans E2 E3a) E9, rfl, ⟨x.aB, x.aQ, a2, x.aW⟩, by rw [e1]; rfl, ?_⟩
            rw [e1]
            exact ⟨AM.b, AM.q, by show AccR _ 4 ((m.links ++ [_]).flatMap linkC) a2; rw [List.flatMap_append]; exact ha2, AM.w⟩
        · skip
          have e0 : numsR (2) 4 ws = none := by simpa using hi
          have e1 : numsR (belR [76]) (kindR [76]).2 ws = none := e0
          refine xp_skip ?_
          refine xp_seq ?_
          refine xp_region rfl ?_
          refine op_pure (pv_move (v := .bool _) rfl) ?_
          refine op_pure (pv_assign (v := .bool _) rfl) ?_
          refine xp_ret ?_
          refine res_list (vs := [_]) Tryz.results36 ⟨resV_tmp rfl rfl, trivial⟩ fun V => ?_
          exact ⟨_, _, rfl, V, E2, rfl, x, by rw [e1], by rw [e1]; exact AM⟩
      · skip
        have n76 : ¬ w = [76] := of_decide_eq_false h76
        refine xp_seq ?_
        refine xp_region rfl ?_
        refine op_pure (pv_streq rfl rfl) ?_
        refine op_pure (pv_assign (v := .bool _) rfl) ?_
        refine xp_cond rfl (fun h87 => ?_) (fun h87 => ?_)
        · skip
          have hw' : w = [87] := of_decide_eq_true h87
          subst hw'
          refine xp_seq ?_
          refine xp_region rfl ?_
          refine op_pure (pv_move (v := .slice _ _ _) rfl) ?_
          refine op_fn (caps := []) (vs := [.slice _ _ _, .int .i64 _, .int .i64 _]) rfl rfl rfl (numbers_ok ws 1 (-1) A c h (R.ext (Ext.refl _)) (PW.ext (Ext.refl _)) (ER.ext (Ext.refl _)) hw hl (by decide) (by decide)) ?_
          rintro _ h2 E2 ⟨A2, n2, c2, rfl, hR⟩
          refine op_pure (pv_move (v := .tuple #[.slice _ _ _, .bool _]) rfl) ?_
          refine op_pure (pv_of (v := .slice _ _ _) rfl) ?_
          refine op_pure (pv_of (v := .bool _) rfl) ?_
          refine op_pure (pv_assign (v := .slice _ _ _) rfl) ?_
          refine op_pure (pv_assign (v := .bool _) rfl) ?_
          refine xp_seq ?_
          refine xp_region rfl ?_
          refine op_pure (pv_move (v := .bool _) rfl) ?_
          refine xp_cond rfl (fun hi => ?_) (fun hi => ?_)
          · skip
            obtain ⟨l, hnl⟩ := Option.isSome_iff_exists.1 hi
            obtain ⟨rfl, RA⟩ := hR l hnl
            have hll : l.length = 1 := by
              unfold numsR at hnl
              split at hnl
              · rename_i hlen; rw [numsFrom_len hnl, hlen]
              · cases hnl
            have e1 : numsR (belR [87]) (kindR [87]).2 ws = some l := hnl
            match l, hll with
            | [a], _ =>
              obtain ⟨g0, f0, hA0, hc0⟩ := RA.at (by decide) (i := 0) (by simp)
              refine xp_dw [] rfl rfl rfl ?_
              refine dw_pure (i := 0) rfl (by decide +kernel) (pv_move (v := .pointer (some ⟨bm, 0, none⟩)) rfl) ?_
              refine dw_pure (i := 1) rfl (by decide +kernel) (pv_move (v := .pointer (some ⟨bm, 0, none⟩)) rfl) ?_
              refine dw_pure (i := 2) rfl (by decide +kernel) (pv_of (v := .pointer (some ⟨bm, 0, none⟩)) rfl) ?_
              refine dw_pure (i := 3) rfl (by decide +kernel) (pv_fieldAddr rfl rfl rfl rfl 8 rfl) ?_
              refine dw_load (i := 4) rfl (by decide +kernel) ?_
              refine op_loadP 0 (v := .slice _ _ _) rfl rfl rfl rfl ?_
              refine dw_pure (i := 5) rfl (by decide +kernel) (pv_move (v := .slice _ _ _) rfl) ?_
              refine dw_pure (i := 6) rfl (by decide +kernel) (pv_indexE rfl hA0 rfl rfl rfl (by simp) (by simp)) ?_
              refine dw_load (i := 7) rfl (by decide +kernel) ?_
              refine op_load (v := .int .i64 _) rfl rfl ((hc0) 0 _ rfl) ?_
              refine dw_eff (i := 8) rfl (by decide +kernel) ?_
              refine op_buildSlice (zc := [_]) (vs := [(0, .int .i64 _)]) (cs := [_]) rfl rfl rfl rfl rfl rfl rfl fun b103 hb103 => ?_
              refine ⟨ext_new hb103 _, ?_⟩
              refine dw_norm [_, _, _, _, _, _] rfl ?_
              refine dw_last (i := 9) rfl (by decide +kernel) (by decide +kernel) ?_
              refine op_appendR 4 AM.w rfl rfl rfl (fun V => rdP V (i := 5) rfl) rfl rfl rfl rfl rfl rfl rfl rfl rfl (by omega) rfl (by rw [flat_len (m := 1) (fun _ _ => rfl)]; simp only [List.length_cons, List.length_nil]; omega) fun a2 h4a E4a ha2 => ?_
              refine dw_norm [_, _, _, _, _, _] rfl ?_
              refine dw_pure (i := 10) rfl (by decide +kernel) (pv_of (v := .pointer (some ⟨bm, 0, none⟩)) rfl) ?_
              refine dw_pure (i := 11) rfl (by decide +kernel) (pv_fieldAddr rfl rfl rfl rfl 8 rfl) ?_
              refine dw_last (i := 12) rfl (by decide +kernel) (by decide +kernel) ?_
              refine op_storeP 0 (v := .slice _ _ _) (vs := [_]) (c' := [_, _, _, _, _, _, _, _, _]) rfl rfl rfl rfl rfl rfl rfl rfl rfl ?_
              refine dw_norm [_, _, _, _, _, _] rfl ?_
              refine dw_end rfl ?_
              refine xp_seq ?_
              refine xp_region rfl ?_
              refine op_pure (pv_move (v := .bool _) rfl) ?_
              refine op_pure (pv_assign (v := .bool _) rfl) ?_
              refine xp_ret ?_
              refine res_list (vs := [_]) Tryz.results36 ⟨resV_tmp rfl rfl, trivial⟩ fun V => ?_
              obtain ⟨h9, E9, e9, V9⟩ := wl_drop [_] [_, _, _, _, _] V
              refine ⟨h9, _, e9, V9, Ext.trans (Ext.trans E2 E4a) E9, rfl, ⟨x.aB, x.aQ, x.aL, a2⟩, by rw [e1]; rfl, ?_⟩
              rw [e1]
              exact ⟨AM.b, AM.q, AM.l, by show AccR _ 1 ((m.weights ++ [_]).flatMap intC) a2; rw [List.flatMap_append]; exact ha2⟩
          · skip
            have e0 : numsR (-1) 1 ws = none := by simpa using hi
            have e1 : numsR (belR [87]) (kindR [87]).2 ws = none := e0
            refine xp_skip ?_
            refine xp_seq ?_
            refine xp_region rfl ?_
            refine op_pure (pv_move (v := .bool _) rfl) ?_
            refine op_pure (pv_assign (v := .bool _) rfl) ?_
            refine xp_ret ?_
            refine res_list (vs := [_]) Tryz.results36 ⟨resV_tmp rfl rfl, trivial⟩ fun V => ?_
            exact ⟨_, _, rfl, V, E2, rfl, x, by rw [e1], by rw [e1]; exact AM⟩
        · skip
          have n87 : ¬ w = [87] := of_decide_eq_false h87
          refine xp_seq ?_
          refine xp_region rfl ?_
          refine op_pure (pv_streq rfl rfl) ?_
          refine op_pure (pv_assign (v := .bool _) rfl) ?_
          refine xp_cond rfl (fun h69 => ?_) (fun h69 => ?_)
          · skip
            have hw' : w = [69] := of_decide_eq_true h69
            subst hw'
            refine xp_region rfl ?_
            refine op_pure (pv_move (v := .slice _ _ _) rfl) ?_
            refine op_fn (caps := []) (vs := [.slice _ _ _, .int .i64 _, .int .i64 _]) rfl rfl rfl (numbers_ok ws 0 (-1) A c h (R.ext (Ext.refl _)) (PW.ext (Ext.refl _)) (ER.ext (Ext.refl _)) hw hl (by decide) (by decide)) ?_
            rintro _ h2 E2 ⟨A2, n2, c2, rfl, hR⟩
            refine op_pure (pv_move (v := .tuple #[.slice _ _ _, .bool _]) rfl) ?_
            refine op_pure (pv_of (v := .slice _ _ _) rfl) ?_
            refine op_pure (pv_of (v := .bool _) rfl) ?_
            refine op_pure (pv_assign (v := .bool _) rfl) ?_
            refine xp_seq ?_
            refine xp_region rfl ?_
            refine op_pure (pv_move (v := .bool _) rfl) ?_
            refine op_pure (pv_assign (v := .bool _) rfl) ?_
            refine xp_ret ?_
            refine res_list (vs := [_]) Tryz.results36 ⟨resV_tmp rfl rfl, trivial⟩ fun V => ?_
            have hm : (match numsR (belR [69]) (kindR [69]).2 ws with | some l => takeM m (kindR [69]).1 l | none => m) = m := by
              cases q : numsR (belR [69]) (kindR [69]).2 ws with
              | none => rfl
              | some l =>
                have hll : l.length = 0 := by
                  unfold numsR at q
                  split at q
                  · rename_i hlen; rw [numsFrom_len q, hlen]; rfl
                  · cases q
                rw [List.eq_nil_of_length_eq_zero hll]
                rfl
            exact ⟨_, _, rfl, V, E2, rfl, x, by rw [hm], by rw [hm]; exact AM⟩
          · skip
            exfalso
            have n69 : ¬ w = [69] := of_decide_eq_false h69
            unfold kindR at hkd
            by_cases q : w = [77]
            · rw [if_pos q] at hkd; exact absurd hkd (by decide)
            · rw [if_neg q, if_neg n66, if_neg n80, if_neg n76, if_neg n87, if_neg n69] at hkd
              exact absurd hkd (by decide)
end
end Go.Proofs.YtmpahfdiebhdbaaGreatDoor
/- Plain law: the lines of a machine's text, one by one. Conditions: none. -/
namespace Go.Rd
open Go.HL
set_option linter.all false
theorem split_len {c : UInt8} : ∀ {t : List UInt8}, ∀ r ∈ splitL c t, r.length ≤ t.length
  | [], r, hr => by simp [splitL] at hr; subst hr; simp
  | b :: t, r, hr => by
    have ih := @split_len c t
    rw [splitL_cons] at hr
    split at hr
    · rcases List.mem_cons.1 hr with rfl | hr
      · simp
      · have := ih r hr; rw [List.length_cons]; omega
    · cases h : splitL c t with
      | nil => exact absurd h (splitL_ne c t)
      | cons x xs =>
        rw [h] at hr ih
        rcases List.mem_cons.1 hr with rfl | hr
        · have := ih x (by simp); rw [List.length_cons, List.length_cons]; omega
        · have := ih r (by simp [hr]); rw [List.length_cons]; omega
theorem rowR_M {m : MachP} {row : List UInt8} {wr : List (List UInt8)} (hs : splitL 47 row = [77] :: wr) : rowR true (-1) m row = (numsR (-1) 5 wr).map fun l => ((0 : Int), takeM m 0 l) := by
  unfold rowR
  rw [hs]
  show (match numsR (-1) 5 wr with | none => none | some l => if (0 : Int) < -1 ∨ (-1 : Int) = 5 ∨ decide ((0 : Int) = 0) ≠ true then none else some ((0 : Int), takeM m 0 l)) = _
  cases numsR (-1) 5 wr with
  | none => rfl
  | some l =>
    simp only [Option.map_some]
    rw [if_neg (by decide)]
theorem kind_zero {w : List UInt8} (h : (kindR w).1 = 0) : w = [77] := by
  unfold kindR at h
  by_cases w1 : w = [77]
  · exact w1
  · rw [if_neg w1] at h
    split at h
    · exact absurd h (by decide)
    · split at h
      · exact absurd h (by decide)
      · split at h
        · exact absurd h (by decide)
        · split at h
          · exact absurd h (by decide)
          · split at h
            · exact absurd h (by decide)
            · exact absurd h (by decide)
theorem rowR_notM {at_ : Int} {m : MachP} {row w : List UInt8} {wr : List (List UInt8)} (hs : splitL 47 row = w :: wr) (hw : w ≠ [77]) : rowR true at_ m row = none := by
  unfold rowR
  rw [hs]
  simp only
  cases numsR (belR w) (kindR w).2 wr with
  | none => rfl
  | some l =>
    simp only
    rw [if_pos]
    refine .inr (.inr ?_)
    rw [decide_eq_false (fun h => hw (kind_zero h))]
    decide
theorem rowR_rest {at_ : Int} {m : MachP} {row w : List UInt8} {wr : List (List UInt8)} (hs : splitL 47 row = w :: wr) (ha : 0 ≤ at_) : rowR false at_ m row = if (kindR w).1 < at_ ∨ at_ = 5 ∨ (kindR w).1 ≤ 0 then none else (numsR (belR w) (kindR w).2 wr).map fun l => ((kindR w).1, takeM m (kindR w).1 l) := by
  unfold rowR
  rw [hs]
  simp only
  cases numsR (belR w) (kindR w).2 wr with
  | none => simp
  | some l =>
    simp only [Option.map_some]
    by_cases h : (kindR w).1 < at_ ∨ at_ = 5 ∨ (kindR w).1 ≤ 0
    · rw [if_pos h, if_pos]
      rcases h with h | h | h
      · exact .inl h
      · exact .inr (.inl h)
      · by_cases h0 : (kindR w).1 = 0
        · exact .inr (.inr (by rw [decide_eq_true h0]; decide))
        · exact .inl (by omega)
    · rw [if_neg h, if_neg]
      rintro (h1 | h1 | h1)
      · exact h (.inl h1)
      · exact h (.inr (.inl h1))
      · exact h (.inr (.inr (by
          cases q : decide ((kindR w).1 = 0) with
          | true => have := of_decide_eq_true q; omega
          | false => exact absurd q h1)))
/-- The place of a word among BPLWE. -/
def nowR (w : List UInt8) : Int := if (kindR w).1 ≤ 0 then -1 else (kindR w).1 - 1
theorem now_one (c : UInt8) : idxI c [66, 80, 76, 87, 69] = nowR [c] := u8_all (p := fun c => idxI c [66, 80, 76, 87, 69] = nowR [c]) (by decide +kernel) c
theorem now_no {w : List UInt8} (h : w.length ≠ 1) : nowR w = -1 := by
  have : (kindR w).1 = -1 := by
    unfold kindR
    repeat (rw [if_neg (by rintro rfl; exact h rfl)])
  unfold nowR
  rw [if_pos (by omega)]
theorem kind_rng (w : List UInt8) : -1 ≤ (kindR w).1 ∧ (kindR w).1 ≤ 5 := by
  unfold kindR
  repeat (first | decide | split)
theorem goR_stop {i : Nat} {at_ : Int} {m : MachP} {r : List UInt8} {rs : List (List UInt8)} (h : rowR (decide (i = 0)) at_ m r = none) : goR i at_ m (r :: rs) = (i + 1, at_, m) := by rw [goR_cons, h]
theorem goR_next {i : Nat} {at_ p : Int} {m m2 : MachP} {r : List UInt8} {rs : List (List UInt8)} (h : rowR (decide (i = 0)) at_ m r = some (p, m2)) : goR i at_ m (r :: rs) = goR (i + 1) p m2 rs := by rw [goR_cons, h]
theorem readM_long {t : List UInt8} (h : t.length > 400) : readM t = (m0, 0, 10) := if_pos h
theorem readM_bad {t : List UInt8} (h : ¬ t.length > 400) {k : Nat} {at_ : Int} {m : MachP} (hg : goR 0 (-1) m0 (splitL 10 t).dropLast = (k + 1, at_, m)) : readM t = (m0, ((k + 1 : Nat) : Int), 2) := by
  unfold readM
  rw [if_neg h]
  simp only [hg]
  rw [if_pos (by simp)]
theorem readM_end {t : List UInt8} (h : ¬ t.length > 400) {at_ : Int} {m : MachP} (hg : goR 0 (-1) m0 (splitL 10 t).dropLast = (0, at_, m)) (hb : at_ ≠ 5 ∨ (splitL 10 t).getLast? ≠ some []) : readM t = (m0, ((splitL 10 t).length : Int), 2) := by
  unfold readM
  rw [if_neg h]
  simp only [hg]
  rw [if_neg (by simp), if_pos hb]
theorem readM_chk {t : List UInt8} (h : ¬ t.length > 400) {at_ : Int} {m : MachP} (hg : goR 0 (-1) m0 (splitL 10 t).dropLast = (0, at_, m)) (hb : ¬ (at_ ≠ 5 ∨ (splitL 10 t).getLast? ≠ some [])) (hc : chkM m ≠ 0) : readM t = (m0, 0, chkM m) := by
  unfold readM
  rw [if_neg h]
  simp only [hg]
  rw [if_neg (by simp), if_neg hb, if_pos hc]
theorem readM_ok {t : List UInt8} (h : ¬ t.length > 400) {at_ : Int} {m : MachP} (hg : goR 0 (-1) m0 (splitL 10 t).dropLast = (0, at_, m)) (hb : ¬ (at_ ≠ 5 ∨ (splitL 10 t).getLast? ≠ some [])) (hc : ¬ chkM m ≠ 0) : readM t = (m, 0, 0) := by
  unfold readM
  rw [if_neg h]
  simp only [hg]
  rw [if_neg (by simp), if_neg hb, if_neg hc]
theorem row_tail [Lvl] {h : Go.HL.AH} {A : Option Go.Addr} {w : List UInt8} {wr : List (List UInt8)} {cap : Nat} (R : Go.Wx.Row h 1 strC A (w :: wr)) (hc : wr.length + 1 ≤ cap) : Go.Wx.Row h 1 strC (if cap = 1 then A else A.map (·.add (1 * 1))) wr := by
  refine ⟨fun _ _ => rfl, ?_⟩
  by_cases h1 : cap = 1
  · have : wr = [] := List.eq_nil_of_length_eq_zero (by omega)
    subst this
    exact Rd.nil _ _
  · rw [if_neg h1]
    have := rd_drop R.2 1
    exact this
end Go.Rd
/- The own logic, part CC: guarded operations that turn memory, amid drawn regions. Conditions: none. -/
namespace Go.HL
open Go
variable [Lvl]
variable {P : Program} {n : Nat} {ops : Array Oper} {i : Nat} {d : Option Tmp} {op : Op} {ty : TypeId} {ps : String} {af : Array Edge} {S : Sl} {L : Pv} {h : AH} {mask : List Bool} {X : Sl → AH → Prop} {dn ac : List Nat}
theorem dw_lastG {j : Nat} {want t : Bool} (hoi : ops[i]? = some ⟨d, op, ty, ps, af, some (j, want)⟩) (hok : okE ops dn i = true) (hl : okL ops dn i = true)
    (ht : ev n S (.tmp (((ops[j]?).bind (·.dst)).getD n)) = .bool t) (hb : t = want) (w : wpL P n ops [⟨d, op, ty, ps, af, none⟩] (fun S' L' h' => Dw P n ops mask X (i :: dn) (i :: ac) S' L' h') (fun _ _ _ _ => False) S L h) : Dw P n ops mask X dn ac S L h := by
  intro V G hG
  unfold okE at hok
  rw [hoi] at hok
  simp only [Bool.and_eq_true] at hok
  obtain ⟨⟨hr, hbl⟩, hap⟩ := hok
  obtain ⟨m, hm⟩ := left_pos hr
  obtain ⟨hi, hdi⟩ := ready_lt hr
  rw [hm]
  refine take_any hoi m dn ac G S (wl h L) (fin_wl V) hm hr ?_ ?_ (fun g hg => (hG g hg).2.1) ?_ ?_
  · intro x hx
    have := List.all_eq_true.1 hbl x ((el_mem _ _).1 hx)
    simpa using this
  · intro g hg _
    exact (hG g hg).2.1 _ _ (ext_rm V) (hG g hg).2.2
  · intro j oj hoj hji hdj hbj
    have hjl : j < ops.size := (Array.getElem?_eq_some_iff.1 hoj).1
    have := List.all_eq_true.1 hap j (by simpa using hjl)
    rw [hoj, hdj, hbj] at this
    simp only [Bool.or_false, Bool.or_eq_true, beq_iff_eq, Bool.and_eq_true, Option.isNone_iff_eq_none] at this
    obtain ⟨⟨h1, h2⟩, h3⟩ := this.resolve_left hji
    exact ⟨h1, h2, h3⟩
  · refine ⟨some t, by rw [ht]; rfl, fun _ => ?_, fun hn => absurd (congrArg some hb) hn⟩
    show opW P n ⟨d, op, ty, ps, af, none⟩ S (wl h L) _ noE
    refine opW_mono ?_ ?_ (w V)
    · rintro v H ⟨L', h', rfl, V', hD⟩
      -- the facts that are still asked hold everywhere
      have hdead : ∀ g ∈ G, (∀ H, g.2 H) ∨ ¬ alive ops (i :: ac) g.1 := by
        intro g hg
        rcases (hG g hg).1 with h1 | ⟨h1, h2⟩
        · exact .inl h1
        · right
          intro a
          have := List.all_eq_true.1 hl g.1 ((el_mem _ _).1 h2)
          rw [h1] at this
          simp only [Bool.not_true, Bool.false_or] at this
          have := a i this
          simp [el_cons] at this
      refine ⟨fun g hg a => ((hdead g hg).resolve_right (fun n => n a)) _, ?_⟩
      have hall : ∀ (m : Nat) (dn' ac' : List Nat) (S' : Sl) (H' : AH), (∀ k, el k (i :: ac) = true → el k ac' = true) → WG P n ops m dn' ac' [] X S' H' → WG P n ops m dn' ac' G X S' H' := by
        intro m
        induction m with
        | zero => intro dn' ac' S' H' _ w; exact w
        | succ m ih =>
          intro dn' ac' S' H' hsub w j oj hoj hrj
          refine T1_mono (fun S2 H2 y => ⟨fun g hg a => ?_, ih _ _ _ _ (fun k hk => by simp [el_cons, hsub k hk]) y.2⟩) (w j oj hoj hrj)
          exact ((hdead g hg).resolve_right (fun n => n (alive_less (fun k hk => by simp [el_cons, hsub k hk]) a))) _
      have := hD V' [] (fun g hg => by cases hg)
      rw [left_cons hi hdi hm] at this
      exact hall m _ _ _ _ (fun _ h => h) this
    · rintro v H ⟨L', h', rfl, V', y⟩; exact y
end Go.HL
/- Walks: rod.Read. Conditions: as each theorem states. -/
namespace Go.Proofs.YtmpahfdiebhdbaaGreatDoor
open Go Go.HL Go.Proofs Go.Wx Go.Rd
def acc4 : MAcc := ⟨acc0, acc0, acc0, acc0⟩
section
variable [Lvl]
set_option maxRecDepth 100000
theorem machV0 (h : AH) : MachV h m0 (.agg #[.int .i64 0, .int .i64 0, .int .i64 0, .int .i64 0, .int .i64 0, .slice none 0 0, .slice none 0 0, .slice none 0 0, .slice none 0 0]) :=
  ⟨_, _, _, _, rfl, ⟨none, 0, rfl, ⟨fun _ _ => rfl, Rd.nil _ _⟩⟩, ⟨none, 0, rfl, ⟨fun _ _ => rfl, Rd.nil _ _⟩⟩, ⟨none, 0, rfl, ⟨fun _ _ => rfl, Rd.nil _ _⟩⟩, ⟨none, 0, rfl, ⟨fun _ _ => rfl, Rd.nil _ _⟩⟩⟩
theorem takeM_len {m : MachP} {k : Nat} (L : LenM m k) (p : Int) (l : List Int) : LenM (takeM m p l) (k + 1) := by
  have a1 := L.b
  have a2 := L.q
  have a3 := L.l
  have a4 := L.w
  unfold takeM
  split <;> (repeat (first | split | (refine ⟨?_, ?_, ?_, ?_⟩ <;> first | omega | (simp only [List.length_append, List.length_singleton]; omega))))
theorem readM_badI {t : List UInt8} (h : ¬ t.length > 400) {k : Nat} {at_ : Int} {m : MachP} (hg : goR 0 (-1) m0 (splitL 10 t).dropLast = (k + 1, at_, m)) : readM t = (m0, (k : Int) + 1, 2) := readM_bad h hg
theorem readM_endI {t : List UInt8} (h : ¬ t.length > 400) {at_ : Int} {m : MachP} (hg : goR 0 (-1) m0 (splitL 10 t).dropLast = (0, at_, m)) (hb : at_ ≠ 5 ∨ (splitL 10 t).getLast? ≠ some []) {z : Int} (hz : z = (splitL 10 t).length) : readM t = (m0, z, 2) := by rw [hz]; exact readM_end h hg hb
def ReadV (h : AH) (t : List UInt8) (v : Value) : Prop := ∃ V, v = .tuple #[V, .int .i64 (readM t).2.1, .int .i64 (readM t).2.2] ∧ MachV h (readM t).1 V
theorem readV_of {h : AH} {t : List UInt8} {m : MachP} {row e : Int} {V : Value} (hr : readM t = (m, row, e)) (hv : MachV h m V) : ReadV h t (.tuple #[V, .int .i64 row, .int .i64 e]) := by
  unfold ReadV
  rw [hr]
  exact ⟨V, rfl, hv⟩
set_option maxHeartbeats 4000000 in
theorem Read_ok (t : List UInt8) (h : AH) (PW : Pow h) (ER : Errs h) : FnT Tryz.prog 12 #[.string (bs t)] h (fun v h' => ReadV h' t v) := by
  refine call_body Tryz.func12 rfl Tryz.ntmps12 rfl ?_
  refine xp_seq ?_
  refine xp_region rfl ?_
  refine op_alloc (cs := [_, _, _, _, _, _, _, _, _]) rfl rfl fun b2 hb2 => ?_
  refine wp_norm [_] rfl ?_
  refine op_pure (pv_assign (v := .int .i64 _) rfl) ?_
  refine op_pure (pv_assign (v := .int .i64 _) rfl) ?_
  refine xp_seq ?_
  refine xp_seq ?_
  refine xp_region rfl ?_
  refine op_pure (pv_move (v := .string _) rfl) ?_
  refine op_pure (pv_strlen rfl rfl) ?_
  refine op_pure (pv_of (v := .bool _) rfl) ?_
  refine xp_cond rfl (fun hlen => ?_) (fun hlen => ?_)
  · skip
    have hlen' : t.length > 400 := by have := of_decide_eq_true hlen; omega
    refine xp_seq ?_
    refine xp_region rfl ?_
    refine op_pure (pv_build (zc := [_, _, _, _, _, _, _, _, _]) (vs := []) (cs := [_, _, _, _, _, _, _, _, _]) rfl rfl rfl rfl rfl rfl) ?_
    refine op_storeP 0 (v := .agg #[.int .i64 _, .int .i64 _, .int .i64 _, .int .i64 _, .int .i64 _, .slice _ _ _, .slice _ _ _, .slice _ _ _, .slice _ _ _]) (vs := [_, _, _, _, _, _, _, _, _]) (c' := [_, _, _, _, _, _, _, _, _]) rfl rfl rfl rfl rfl rfl rfl rfl rfl ?_
    refine wp_norm [_] rfl ?_
    refine op_pure (pv_assign (v := .int .i64 _) rfl) ?_
    refine op_pure (pv_assign (v := .int .i64 _) rfl) ?_
    refine xp_ret ?_
    refine res_list (vs := [_, _, _]) Tryz.results12 ⟨resV_agg 0 rfl rfl rfl rfl rfl (vs := [.int .i64 _, .int .i64 _, .int .i64 _, .int .i64 _, .int .i64 _, .slice _ _ _, .slice _ _ _, .slice _ _ _, .slice _ _ _]) rfl, resV_tmp rfl rfl, resV_tmp rfl rfl, trivial⟩ fun V => ?_
    exact ⟨(ext_wl V), readV_of (readM_long hlen') (machV0 _)⟩
  · skip
    have hlen' : ¬ t.length > 400 := by have := of_decide_eq_false hlen; omega
    obtain ⟨rows, hrows⟩ : ∃ rows, rows = splitL 10 t := ⟨_, rfl⟩
    have hrl : rows.length = cntB 10 t + 1 := by rw [hrows]; exact splitL_len 10 t
    have hcl := cnt_le 10 t
    have hdl : rows.dropLast.length = rows.length - 1 := List.length_dropLast ..
    have hrn : ∀ r ∈ rows, r.length ≤ 400 := fun r hr => by
      rw [hrows] at hr
      have := split_len r hr
      omega
    refine xp_skip ?_
    refine xp_seq ?_
    refine xp_region rfl ?_
    refine op_pure (pv_move (v := .string _) rfl) ?_
    refine op_fn (caps := []) (vs := [.string _, .string _]) rfl rfl rfl (Split_ok t 10 h (by omega)) ?_
    rintro _ h1 E1 ⟨AR, cR, rfl, RR, hcR⟩
    rw [← hrows] at RR hcR ⊢
    refine op_pure (pv_assign (v := .slice _ _ _) rfl) ?_
    refine xp_seq ?_
    refine xp_region rfl ?_
    refine op_pure (pv_move (v := .slice _ _ _) rfl) ?_
    refine op_pure (pv_len rfl rfl) ?_
    refine op_pure (pv_arith rfl (by omega)) ?_
    refine op_pure (pv_assign (v := .int .i64 _) rfl) ?_
    refine xp_seq ?_
    refine xp_region rfl ?_
    refine op_pure (pv_assign (v := .int .i64 _) rfl) ?_
    refine xp_seq ?_
    refine xp_seq ?_
    refine xp_region rfl ?_
    refine op_pure (pv_move (v := .slice _ _ _) rfl) ?_
    refine op_pure (pv_move (v := .int .i64 _) rfl) ?_
    refine op_pure (pv_front (k := rows.length - 1) rfl rfl (by omega) (by omega) rfl rfl) ?_
    refine op_pure (pv_len rfl rfl) ?_
    refine op_pure (pv_move (v := .int .i64 _) rfl) ?_
    refine xp_block ?_
    refine goes_more ?_
    refine goes_norm [_, _] rfl ?_
    refine goes_more ?_
    refine goes_norm [_, _, _] rfl ?_
    refine goes_more ?_
    refine goes_norm [_, _, _, _] rfl ?_
    refine goes_more ?_
    refine goes_norm [_, _, _, _, _] rfl ?_
    refine xp_loopL [3, 4, 7, 8, 9, 10, 11, 12, 13, 28, 29, 30, 31, 32, 33, 34, 35, 36, 37, 38, 39, 40, 41, 42, 43, 44, 45, 46, 47, 48, 49, 50, 51, 52, 53, 54, 55, 56, 57, 58, 59, 60, 61, 62, 63, 64, 65, 66, 67, 68, 69, 70, 71, 72, 73, 74, 75, 76, 77, 78, 79, 80, 81, 82, 83, 84, 85, 86, 87, 88, 89, 90, 91, 92, 93, 94, 95, 96, 97] 5 (α := Nat × Int × MachP × MAcc) (fun ⟨k, a_, m, x⟩ => [(28, .int .i64 k), (7, .int .i64 (max 0 (a_ - 1)))]) (fun ⟨k, a_, m, x⟩ L => ((((L.set 0 (some (b2, .cells (mCells m x).toArray 26 (0, 0)))).set 1 (x.aB.p)).set 2 (x.aQ.p)).set 3 (x.aL.p)).set 4 (x.aW.p)) (fun ⟨k, a_, m, x⟩ h_k => k ≤ rows.length - 1 ∧ goR 0 (-1) m0 rows.dropLast = goR k a_ m (rows.dropLast.drop k) ∧ (k = 0 ↔ a_ = -1) ∧ (-1 ≤ a_ ∧ a_ ≤ 5) ∧ AccM m x ∧ LenM m k ∧ (k = 0 → m = m0 ∧ x = acc4)) (fun ⟨k, a_, m, x⟩ => rows.length - 1 - k) ((0, -1, m0, acc4)) ⟨rfl, rfl, trivial⟩ (rfl) (⟨Nat.zero_le _, rfl, by decide, by decide, ⟨accR0, accR0, accR0, accR0⟩, ⟨Nat.zero_le _, Nat.zero_le _, Nat.zero_le _, Nat.zero_le _⟩, fun _ => ⟨rfl, rfl⟩⟩) ?_
    rintro ⟨k, a_, m, x⟩ T1 h_k E_k J_k
    refine goes_norm [_, _, _, _, _] rfl ?_
    obtain ⟨K1, K2, K3, K4, KA, KL, K0⟩ := J_k
    refine xp_seq ?_
    refine xp_region rfl ?_
    refine op_pure (pv_of (v := .bool _) rfl) ?_
    refine xp_seq ?_
    refine xp_cond rfl (fun hk => ?_) (fun hk => ?_)
    · skip
      have hkl : k < rows.length - 1 := by have := of_decide_eq_true hk; omega
      have hkr : k < rows.length := by omega
      have hkd : k < rows.dropLast.length := by omega
      have hge : rows.dropLast[k] = rows[k] := List.getElem_dropLast ..
      have hrk := hrn _ (List.getElem_mem hkr)
      rw [List.drop_eq_getElem_cons hkd, hge] at K2
      obtain ⟨w0, wr, hws⟩ : ∃ w0 wr, splitL 47 rows[k] = w0 :: wr := by
        cases q : splitL 47 rows[k] with
        | nil => exact absurd q (splitL_ne 47 _)
        | cons w0 wr => exact ⟨w0, wr, rfl⟩
      have hwl := splitL_len 47 rows[k]
      have hwc := cnt_le 47 rows[k]
      rw [hws, List.length_cons] at hwl
      have hwn : ∀ r ∈ w0 :: wr, r.length ≤ 400 := fun r hr => by
        rw [← hws] at hr
        have := split_len r hr
        omega
      obtain ⟨g, off, hA, hc⟩ := (RR.ext E_k).at (by decide) hkr
      refine xp_skip ?_
      refine xp_seq ?_
      refine xp_block ?_
      refine xp_seq ?_
      refine xp_region rfl ?_
      refine op_pure (pv_move (v := .int .i64 _) rfl) ?_
      refine op_pure (pv_indexE rfl hA rfl rfl rfl (by omega) (by omega)) ?_
      refine op_load (v := .string _) rfl rfl ((hc) 0 _ rfl) ?_
      refine op_pure (pv_assign (v := .int .i64 _) rfl) ?_
      refine op_pure (pv_assign (v := .string _) rfl) ?_
      refine xp_seq ?_
      refine xp_region rfl ?_
      refine op_pure (pv_move (v := .string _) rfl) ?_
      refine op_fn (caps := []) (vs := [.string _, .string _]) rfl rfl rfl (Split_ok rows[k] 47 h_k (by omega)) ?_
      rintro _ h2 E2 ⟨AW, cW, rfl, RW, hcW⟩
      rw [hws] at RW hcW ⊢
      obtain ⟨g0, f0, hA0, hc0⟩ := RW.at (by decide) (i := 0) (by simp)
      have RT := row_tail RW (by simpa using hcW)
      have hwl2 : (w0 :: wr).length = wr.length + 1 := rfl
      refine op_pure (pv_assign (v := .slice _ _ _) rfl) ?_
      refine xp_seq ?_
      refine xp_seq ?_
      refine xp_region rfl ?_
      refine op_pure (pv_move (v := .int .i64 _) rfl) ?_
      refine op_pure (pv_of (v := .bool _) rfl) ?_
      refine xp_cond rfl (fun hk0 => ?_) (fun hk0 => ?_)
      · skip
        have hk0' : k = 0 := by
          have : (k : Int) = 0 := by simpa using hk0
          omega
        subst hk0'
        have ha : a_ = -1 := K3.1 rfl
        obtain ⟨hm0, hx0⟩ := K0 rfl
        subst ha hm0 hx0
        refine xp_seq ?_
        refine xp_region rfl ?_
        refine op_pure (pv_move (v := .slice _ _ _) rfl) ?_
        refine op_pure (pv_sliceLoS (m := 1) 1 (l' := wr.length) (c' := cW - 1) (A' := if cW = 1 then AW else AW.map (·.add (1 * 1))) rfl rfl rfl rfl rfl (by omega) (by omega) rfl (by omega) rfl) ?_
        refine op_fn (caps := []) (vs := [.slice _ _ _, .int .i64 _, .int .i64 _]) rfl rfl rfl (numbers_ok wr 5 (-1) _ _ h2 (RT.ext (Ext.refl _)) (PW.ext (Ext.trans (Ext.trans E1 E_k) E2)) (ER.ext (Ext.trans (Ext.trans E1 E_k) E2)) (fun y hy => by have := hwn y (by simp [hy]); omega) (by omega) (by decide) (by decide)) ?_
        rintro _ h3 E3 ⟨A3, n3, c3, rfl, hR⟩
        refine op_pure (pv_move (v := .tuple #[.slice _ _ _, .bool _]) rfl) ?_
        refine op_pure (pv_of (v := .slice _ _ _) rfl) ?_
        refine op_pure (pv_of (v := .bool _) rfl) ?_
        refine op_pure (pv_assign (v := .slice _ _ _) rfl) ?_
        refine op_pure (pv_assign (v := .bool _) rfl) ?_
        refine xp_seq ?_
        refine xp_seq ?_
        refine xp_region rfl ?_
        refine op_pure (pv_move (v := .slice _ _ _) rfl) ?_
        refine op_pure (pv_indexE rfl hA0 rfl rfl rfl (by simp) (by rw [hwl2]; push_cast; omega)) ?_
        refine op_load (v := .string (bs w0)) rfl rfl ((hc0.ext E3) 0 _ rfl) ?_
        refine op_pure (pv_strne rfl rfl) ?_
        refine op_pure (pv_move (v := .bool _) rfl) ?_
        by_cases hw0 : w0 = [77]
        · have hg0 : (!decide (w0 = [77])) = false := by rw [decide_eq_true hw0]; rfl
          refine guard_yes rfl hg0 ?_
          refine op_pure (pv_move (v := .bool _) rfl) ?_
          refine guard_yes rfl hg0 ?_
          refine op_pure (pv_of (v := .bool _) rfl) ?_
          refine op_pure (pv_pickF rfl hg0 (v := .bool _) rfl) ?_
          subst hw0
          have hro := rowR_M (m := m0) hws
          refine xp_cond rfl (fun hbad => ?_) (fun hbad => ?_)
          · skip
            have hnn : numsR (-1) 5 wr = none := by simpa using hbad
            rw [hnn] at hro
            refine xp_seq ?_
            refine xp_region rfl ?_
            refine op_pure (pv_build (zc := [_, _, _, _, _, _, _, _, _]) (vs := []) (cs := [_, _, _, _, _, _, _, _, _]) rfl rfl rfl rfl rfl rfl) ?_
            refine op_storeP 0 (v := .agg #[.int .i64 _, .int .i64 _, .int .i64 _, .int .i64 _, .int .i64 _, .slice _ _ _, .slice _ _ _, .slice _ _ _, .slice _ _ _]) (vs := [_, _, _, _, _, _, _, _, _]) (c' := [_, _, _, _, _, _, _, _, _]) rfl rfl rfl rfl rfl rfl rfl rfl rfl ?_
            refine wp_norm [_, _, _, _, _] rfl ?_
            refine op_pure (pv_assign (v := .int .i64 _) rfl) ?_
            refine op_pure (pv_assign (v := .int .i64 _) rfl) ?_
            refine xp_ret ?_
            refine res_list (vs := [_, _, _]) Tryz.results12 ⟨resV_agg 0 rfl rfl rfl rfl rfl (vs := [.int .i64 _, .int .i64 _, .int .i64 _, .int .i64 _, .int .i64 _, .slice _ _ _, .slice _ _ _, .slice _ _ _, .slice _ _ _]) rfl, resV_tmp rfl rfl, resV_tmp rfl rfl, trivial⟩ fun V => ?_
            exact ⟨(Ext.trans (Ext.trans (Ext.trans (Ext.trans E1 E_k) E2) E3) (ext_wl V)), readV_of (readM_bad hlen' (k := 0) (by rw [← hrows, K2]; exact goR_stop hro)) (machV0 _)⟩
          · skip
            obtain ⟨l, hl⟩ : ∃ l, numsR (-1) 5 wr = some l := by
              cases q : numsR (-1) 5 wr with
              | some l => exact ⟨l, rfl⟩
              | none => rw [q] at hbad; cases hbad
            obtain ⟨rfl, RA⟩ := hR l hl
            rw [hl] at hro
            have hll : l.length = 5 := by
              unfold numsR at hl
              split at hl
              · rename_i hq; rw [numsFrom_len hl, hq]
              · cases hl
            match l, hll with
            | [n0, n1, n2, n3, n4], _ =>
              obtain ⟨p0, o0, i0, j0⟩ := RA.at (by decide) (i := 0) (by simp)
              obtain ⟨p1, o1, i1, j1⟩ := RA.at (by decide) (i := 1) (by simp)
              obtain ⟨p2, o2, i2, j2⟩ := RA.at (by decide) (i := 2) (by simp)
              obtain ⟨p3, o3, i3, j3⟩ := RA.at (by decide) (i := 3) (by simp)
              obtain ⟨p4, o4, i4, j4⟩ := RA.at (by decide) (i := 4) (by simp)
              refine xp_skip ?_
              refine xp_seq ?_
              refine xp_dw [] rfl rfl rfl ?_
              refine dw_pure (i := 0) rfl (by decide +kernel) (pv_move (v := .slice _ _ _) rfl) ?_
              refine dw_pure (i := 1) rfl (by decide +kernel) (pv_indexE rfl i0 rfl rfl rfl (by simp) (by simp)) ?_
              refine dw_load (i := 2) rfl (by decide +kernel) ?_
              refine op_load (v := .int .i64 _) rfl rfl ((j0) 0 _ rfl) ?_
              refine dw_pure (i := 3) rfl (by decide +kernel) (pv_move (v := .slice _ _ _) rfl) ?_
              refine dw_pure (i := 4) rfl (by decide +kernel) (pv_indexE rfl i1 rfl rfl rfl (by simp) (by simp)) ?_
              refine dw_load (i := 5) rfl (by decide +kernel) ?_
              refine op_load (v := .int .i64 _) rfl rfl ((j1) 0 _ rfl) ?_
              refine dw_pure (i := 6) rfl (by decide +kernel) (pv_move (v := .slice _ _ _) rfl) ?_
              refine dw_pure (i := 7) rfl (by decide +kernel) (pv_indexE rfl i2 rfl rfl rfl (by simp) (by simp)) ?_
              refine dw_load (i := 8) rfl (by decide +kernel) ?_
              refine op_load (v := .int .i64 _) rfl rfl ((j2) 0 _ rfl) ?_
              refine dw_pure (i := 9) rfl (by decide +kernel) (pv_move (v := .slice _ _ _) rfl) ?_
              refine dw_pure (i := 10) rfl (by decide +kernel) (pv_indexE rfl i3 rfl rfl rfl (by simp) (by simp)) ?_
              refine dw_load (i := 11) rfl (by decide +kernel) ?_
              refine op_load (v := .int .i64 _) rfl rfl ((j3) 0 _ rfl) ?_
              refine dw_pure (i := 12) rfl (by decide +kernel) (pv_move (v := .slice _ _ _) rfl) ?_
              refine dw_pure (i := 13) rfl (by decide +kernel) (pv_indexE rfl i4 rfl rfl rfl (by simp) (by simp)) ?_
              refine dw_load (i := 14) rfl (by decide +kernel) ?_
              refine op_load (v := .int .i64 _) rfl rfl ((j4) 0 _ rfl) ?_
              refine dw_pure (i := 15) rfl (by decide +kernel) (pv_build (zc := [_, _, _, _, _, _, _, _, _]) (vs := [(0, .int .i64 _), (1, .int .i64 _), (2, .int .i64 _), (3, .int .i64 _), (4, .int .i64 _)]) (cs := [_, _, _, _, _, _, _, _, _]) rfl rfl rfl rfl rfl rfl) ?_
              refine dw_last (i := 16) rfl (by decide +kernel) (by decide +kernel) ?_
              refine op_storeP 0 (v := .agg #[.int .i64 _, .int .i64 _, .int .i64 _, .int .i64 _, .int .i64 _, .slice _ _ _, .slice _ _ _, .slice _ _ _, .slice _ _ _]) (vs := [_, _, _, _, _, _, _, _, _]) (c' := [_, _, _, _, _, _, _, _, _]) rfl rfl rfl rfl rfl rfl rfl rfl rfl ?_
              refine dw_norm [_, _, _, _, _] rfl ?_
              refine dw_end rfl ?_
              refine xp_exit ?_
              refine xp_region rfl ?_
              refine op_pure (pv_arith rfl (by omega)) ?_
              refine op_pure (pv_move (v := .int .i64 _) rfl) ?_
              refine ⟨(1, 0, ⟨n0, n1, n2, n3, n4, [], [], [], []⟩, acc4), ⟨rfl, rfl, trivial⟩, rfl, rfl, (Ext.trans (Ext.trans E_k E2) E3), fun h3 E3 => ⟨by omega, by rw [K2]; exact goR_next hro, by decide, by decide, ⟨accR0, accR0, accR0, accR0⟩, ⟨Nat.zero_le _, Nat.zero_le _, Nat.zero_le _, Nat.zero_le _⟩, fun h => absurd h (by decide)⟩, by first | omega | (dsimp only; omega), ?_⟩
              repeat (first | exact off_base _ _ _ | refine off_upd (by decide) ?_ | refine off_updL rfl ?_ | refine off_mix rfl ?_)
        · skip
          have hg0 : (!decide (w0 = [77])) = true := by rw [decide_eq_false hw0]; rfl
          have hro := rowR_notM (m := m0) (at_ := -1) hws hw0
          refine guard_no rfl hg0 ?_
          refine guard_no rfl hg0 ?_
          refine op_pure (pv_pickT rfl hg0 (v := .bool _) rfl) ?_
          refine xp_condT rfl (rfl) ?_
          refine xp_seq ?_
          refine xp_region rfl ?_
          refine op_pure (pv_build (zc := [_, _, _, _, _, _, _, _, _]) (vs := []) (cs := [_, _, _, _, _, _, _, _, _]) rfl rfl rfl rfl rfl rfl) ?_
          refine op_storeP 0 (v := .agg #[.int .i64 _, .int .i64 _, .int .i64 _, .int .i64 _, .int .i64 _, .slice _ _ _, .slice _ _ _, .slice _ _ _, .slice _ _ _]) (vs := [_, _, _, _, _, _, _, _, _]) (c' := [_, _, _, _, _, _, _, _, _]) rfl rfl rfl rfl rfl rfl rfl rfl rfl ?_
          refine wp_norm [_, _, _, _, _] rfl ?_
          refine op_pure (pv_assign (v := .int .i64 _) rfl) ?_
          refine op_pure (pv_assign (v := .int .i64 _) rfl) ?_
          refine xp_ret ?_
          refine res_list (vs := [_, _, _]) Tryz.results12 ⟨resV_agg 0 rfl rfl rfl rfl rfl (vs := [.int .i64 _, .int .i64 _, .int .i64 _, .int .i64 _, .int .i64 _, .slice _ _ _, .slice _ _ _, .slice _ _ _, .slice _ _ _]) rfl, resV_tmp rfl rfl, resV_tmp rfl rfl, trivial⟩ fun V => ?_
          exact ⟨(Ext.trans (Ext.trans (Ext.trans (Ext.trans E1 E_k) E2) E3) (ext_wl V)), readV_of (readM_bad hlen' (k := 0) (by rw [← hrows, K2]; exact goR_stop hro)) (machV0 _)⟩
      · skip
        have hk0' : ¬ k = 0 := by
          have : ¬ (k : Int) = 0 := by simpa using hk0
          omega
        have ha : 0 ≤ a_ := by
          have : ¬ a_ = -1 := fun e => hk0' (K3.2 e)
          omega
        have hro := rowR_rest (m := m) hws ha
        have hkb : decide (k = 0) = false := decide_eq_false hk0'
        have hkr2 := kind_rng w0
        have hnow : ((kindR w0).1 ≤ 0 ∧ nowR w0 = -1) ∨ (1 ≤ (kindR w0).1 ∧ nowR w0 = (kindR w0).1 - 1) := by
          unfold nowR
          by_cases hz : (kindR w0).1 ≤ 0
          · exact .inl ⟨hz, if_pos hz⟩
          · exact .inr ⟨by omega, if_neg hz⟩
        refine xp_skip ?_
        refine xp_seq ?_
        refine xp_region rfl ?_
        refine op_pure (pv_assign (v := .int .i64 _) rfl) ?_
        refine xp_cutB [13, 68, 69, 70, 71, 72, 73, 74, 75, 76] 5 (α := Unit) (fun u => [(13, .int .i64 (nowR w0))]) (fun u L => L) (fun u h_u => True) ?_ ?_
        · skip
          refine xp_seq ?_
          refine xp_region rfl ?_
          refine op_pure (pv_move (v := .slice _ _ _) rfl) ?_
          refine op_pure (pv_indexE rfl hA0 rfl rfl rfl (by simp) (by rw [hwl2]; push_cast; omega)) ?_
          refine op_load (v := .string (bs w0)) rfl rfl ((hc0.ext (Ext.refl _)) 0 _ rfl) ?_
          refine op_pure (pv_strlen rfl rfl) ?_
          refine op_pure (pv_of (v := .bool _) rfl) ?_
          refine xp_cond rfl (fun h1w => ?_) (fun h1w => ?_)
          · skip
            have h1w' : w0.length = 1 := by
              have : (w0.length : Int) = 1 := by simpa using h1w
              omega
            obtain ⟨c0, hc1⟩ : ∃ c0, w0 = [c0] := by
              match w0, h1w' with
              | [c0], _ => exact ⟨c0, rfl⟩
            refine xp_region rfl ?_
            refine op_pure (pv_move (v := .slice _ _ _) rfl) ?_
            refine op_pure (pv_indexE rfl hA0 rfl rfl rfl (by simp) (by rw [hwl2]; push_cast; omega)) ?_
            refine op_load (v := .string (bs [c0])) rfl rfl (by rw [← hc1]; exact (hc0.ext (Ext.refl _)) 0 _ rfl) ?_
            refine op_fn (caps := []) (vs := [.string _, .string _]) rfl rfl rfl (Index_ok [66, 80, 76, 87, 69] c0 h2 (by decide)) ?_
            rintro v5 h5 E5 hv5
            rw [now_one, ← hc1] at hv5
            subst hv5
            refine op_pure (pv_assign (v := .int .i64 _) rfl) ?_
            refine ⟨(), ⟨rfl, trivial⟩, rfl, rfl, E5, fun h3 E3 => by first | trivial | omega | (refine ⟨?_, ?_⟩ <;> omega), ?_⟩
            repeat (first | exact off_refl _ _ | exact off_base _ _ _ | refine off_upd (by decide) ?_ | refine off_updL rfl ?_ | refine off_mix rfl ?_)
          · skip
            have h1w' : w0.length ≠ 1 := by
              intro e
              rw [e] at h1w
              exact absurd h1w (by decide)
            refine xp_skip ?_
            refine ⟨(), ⟨intE (now_no h1w').symm, trivial⟩, rfl, rfl, (Ext.refl _), fun h3 E3 => by first | trivial | omega | (refine ⟨?_, ?_⟩ <;> omega), ?_⟩
            repeat (first | exact off_refl _ _ | exact off_base _ _ _ | refine off_upd (by decide) ?_ | refine off_updL rfl ?_ | refine off_mix rfl ?_)
        · rintro u T2 h_u E_u J_u
          refine goes_norm [_, _, _, _, _] rfl ?_
          by_cases hA1 : nowR w0 < max 0 (a_ - 1)
          · have hg1 : decide (nowR w0 < max 0 (a_ - 1)) = true := decide_eq_true hA1
            rw [if_pos (by omega)] at hro
            refine xp_seq ?_
            refine xp_seq ?_
            refine xp_dw [] rfl rfl rfl ?_
            refine dw_pure (i := 0) rfl (by decide +kernel) (pv_move (v := .int .i64 _) rfl) ?_
            refine dw_pure (i := 1) rfl (by decide +kernel) (pv_move (v := .int .i64 _) rfl) ?_
            refine dw_pure (i := 2) rfl (by decide +kernel) (pv_of (v := .bool _) rfl) ?_
            refine dw_pure (i := 3) rfl (by decide +kernel) (pv_move (v := .bool _) rfl) ?_
            refine dw_skip (i := 4) rfl (by decide +kernel) rfl hg1 ?_
            refine dw_skip (i := 5) rfl (by decide +kernel) rfl hg1 ?_
            refine dw_pure (i := 6) rfl (by decide +kernel) (pv_pickT rfl hg1 (v := .bool _) rfl) ?_
            refine dw_pure (i := 7) rfl (by decide +kernel) (pv_move (v := .bool _) rfl) ?_
            refine dw_skip (i := 8) rfl (by decide +kernel) rfl rfl ?_
            refine dw_skip (i := 9) rfl (by decide +kernel) rfl rfl ?_
            refine dw_skip (i := 10) rfl (by decide +kernel) rfl rfl ?_
            refine dw_skip (i := 11) rfl (by decide +kernel) rfl rfl ?_
            refine dw_skip (i := 12) rfl (by decide +kernel) rfl rfl ?_
            refine dw_skip (i := 13) rfl (by decide +kernel) rfl rfl ?_
            refine dw_skip (i := 14) rfl (by decide +kernel) rfl rfl ?_
            refine dw_pure (i := 15) rfl (by decide +kernel) (pv_pickT rfl rfl (v := .bool _) rfl) ?_
            refine dw_end rfl ?_
            refine xp_condT rfl (rfl) ?_
            refine xp_seq ?_
            refine xp_region rfl ?_
            refine op_pure (pv_build (zc := [_, _, _, _, _, _, _, _, _]) (vs := []) (cs := [_, _, _, _, _, _, _, _, _]) rfl rfl rfl rfl rfl rfl) ?_
            refine op_pure (pv_move (v := .int .i64 _) rfl) ?_
            refine op_pure (pv_arith rfl (by omega)) ?_
            refine op_storeP 0 (v := .agg #[.int .i64 _, .int .i64 _, .int .i64 _, .int .i64 _, .int .i64 _, .slice _ _ _, .slice _ _ _, .slice _ _ _, .slice _ _ _]) (vs := [_, _, _, _, _, _, _, _, _]) (c' := [_, _, _, _, _, _, _, _, _]) rfl rfl rfl rfl rfl rfl rfl rfl rfl ?_
            refine wp_norm [_, _, _, _, _] rfl ?_
            refine op_pure (pv_assign (v := .int .i64 _) rfl) ?_
            refine op_pure (pv_assign (v := .int .i64 _) rfl) ?_
            refine xp_ret ?_
            refine res_list (vs := [_, _, _]) Tryz.results12 ⟨resV_agg 0 rfl rfl rfl rfl rfl (vs := [.int .i64 _, .int .i64 _, .int .i64 _, .int .i64 _, .int .i64 _, .slice _ _ _, .slice _ _ _, .slice _ _ _, .slice _ _ _]) rfl, resV_tmp rfl rfl, resV_tmp rfl rfl, trivial⟩ fun V => ?_
            exact ⟨(Ext.trans (Ext.trans (Ext.trans (Ext.trans E1 E_k) E2) E_u) (ext_wl V)), readV_of (readM_badI hlen' (by rw [← hrows, K2]; exact goR_stop (by rw [hkb]; exact hro))) (machV0 _)⟩
          · skip
            have hg1 : decide (nowR w0 < max 0 (a_ - 1)) = false := decide_eq_false hA1
            by_cases hA2 : a_ = 5
            · have hg2 : (max 0 (a_ - 1) == 4) = true := by rw [hA2]; decide
              rw [if_pos (.inr (.inl hA2))] at hro
              refine xp_seq ?_
              refine xp_seq ?_
              refine xp_dw [] rfl rfl rfl ?_
              refine dw_pure (i := 0) rfl (by decide +kernel) (pv_move (v := .int .i64 _) rfl) ?_
              refine dw_pure (i := 1) rfl (by decide +kernel) (pv_move (v := .int .i64 _) rfl) ?_
              refine dw_pure (i := 2) rfl (by decide +kernel) (pv_of (v := .bool _) rfl) ?_
              refine dw_pure (i := 3) rfl (by decide +kernel) (pv_move (v := .bool _) rfl) ?_
              refine dw_pureG (i := 4) rfl (by decide +kernel) rfl hg1 (pv_move (v := .int .i64 _) rfl) ?_
              refine dw_pureG (i := 5) rfl (by decide +kernel) rfl hg1 (pv_of (v := .bool _) rfl) ?_
              refine dw_pure (i := 6) rfl (by decide +kernel) (pv_pickF rfl hg1 (v := .bool _) rfl) ?_
              refine dw_pure (i := 7) rfl (by decide +kernel) (pv_move (v := .bool _) rfl) ?_
              refine dw_skip (i := 8) rfl (by decide +kernel) rfl hg2 ?_
              refine dw_skip (i := 9) rfl (by decide +kernel) rfl hg2 ?_
              refine dw_skip (i := 10) rfl (by decide +kernel) rfl hg2 ?_
              refine dw_skip (i := 11) rfl (by decide +kernel) rfl hg2 ?_
              refine dw_skip (i := 12) rfl (by decide +kernel) rfl hg2 ?_
              refine dw_skip (i := 13) rfl (by decide +kernel) rfl hg2 ?_
              refine dw_skip (i := 14) rfl (by decide +kernel) rfl hg2 ?_
              refine dw_pure (i := 15) rfl (by decide +kernel) (pv_pickT rfl hg2 (v := .bool _) rfl) ?_
              refine dw_end rfl ?_
              refine xp_condT rfl (rfl) ?_
              refine xp_seq ?_
              refine xp_region rfl ?_
              refine op_pure (pv_build (zc := [_, _, _, _, _, _, _, _, _]) (vs := []) (cs := [_, _, _, _, _, _, _, _, _]) rfl rfl rfl rfl rfl rfl) ?_
              refine op_pure (pv_move (v := .int .i64 _) rfl) ?_
              refine op_pure (pv_arith rfl (by omega)) ?_
              refine op_storeP 0 (v := .agg #[.int .i64 _, .int .i64 _, .int .i64 _, .int .i64 _, .int .i64 _, .slice _ _ _, .slice _ _ _, .slice _ _ _, .slice _ _ _]) (vs := [_, _, _, _, _, _, _, _, _]) (c' := [_, _, _, _, _, _, _, _, _]) rfl rfl rfl rfl rfl rfl rfl rfl rfl ?_
              refine wp_norm [_, _, _, _, _] rfl ?_
              refine op_pure (pv_assign (v := .int .i64 _) rfl) ?_
              refine op_pure (pv_assign (v := .int .i64 _) rfl) ?_
              refine xp_ret ?_
              refine res_list (vs := [_, _, _]) Tryz.results12 ⟨resV_agg 0 rfl rfl rfl rfl rfl (vs := [.int .i64 _, .int .i64 _, .int .i64 _, .int .i64 _, .int .i64 _, .slice _ _ _, .slice _ _ _, .slice _ _ _, .slice _ _ _]) rfl, resV_tmp rfl rfl, resV_tmp rfl rfl, trivial⟩ fun V => ?_
              exact ⟨(Ext.trans (Ext.trans (Ext.trans (Ext.trans E1 E_k) E2) E_u) (ext_wl V)), readV_of (readM_badI hlen' (by rw [← hrows, K2]; exact goR_stop (by rw [hkb]; exact hro))) (machV0 _)⟩
            · skip
              have hg2 : (max 0 (a_ - 1) == 4) = false := by
                have : ¬ max 0 (a_ - 1) = 4 := by omega
                simpa using this
              rw [if_neg (by omega)] at hro
              refine xp_seq ?_
              refine xp_seq ?_
              refine xp_dw [] rfl rfl rfl ?_
              refine dw_pure (i := 0) rfl (by decide +kernel) (pv_move (v := .int .i64 _) rfl) ?_
              refine dw_pure (i := 1) rfl (by decide +kernel) (pv_move (v := .int .i64 _) rfl) ?_
              refine dw_pure (i := 2) rfl (by decide +kernel) (pv_of (v := .bool _) rfl) ?_
              refine dw_pure (i := 3) rfl (by decide +kernel) (pv_move (v := .bool _) rfl) ?_
              refine dw_pureG (i := 4) rfl (by decide +kernel) rfl hg1 (pv_move (v := .int .i64 _) rfl) ?_
              refine dw_pureG (i := 5) rfl (by decide +kernel) rfl hg1 (pv_of (v := .bool _) rfl) ?_
              refine dw_pure (i := 6) rfl (by decide +kernel) (pv_pickF rfl hg1 (v := .bool _) rfl) ?_
              refine dw_pure (i := 7) rfl (by decide +kernel) (pv_move (v := .bool _) rfl) ?_
              refine dw_pureG (i := 8) rfl (by decide +kernel) rfl hg2 (pv_move (v := .slice _ _ _) rfl) ?_
              refine dw_pureG (i := 9) rfl (by decide +kernel) rfl hg2 (pv_indexE rfl hA0 rfl rfl rfl (by simp) (by rw [hwl2]; push_cast; omega)) ?_
              refine dw_loadG (i := 10) rfl (by decide +kernel) rfl hg2 ?_
              refine op_load (v := .string (bs w0)) rfl rfl ((hc0.ext E_u) 0 _ rfl) ?_
              refine dw_pureG (i := 11) rfl (by decide +kernel) rfl hg2 (pv_move (v := .slice _ _ _) rfl) ?_
              refine dw_pureG (i := 12) rfl (by decide +kernel) rfl hg2 (pv_sliceLoS (m := 1) 1 (l' := wr.length) (c' := cW - 1) (A' := if cW = 1 then AW else AW.map (·.add (1 * 1))) rfl rfl rfl rfl rfl (by omega) (by omega) rfl (by omega) rfl) ?_
              refine dw_lastG (i := 13) rfl (by decide +kernel) (by decide +kernel) rfl hg2 ?_
              refine op_fnMM [] [_, _, _, _, _] [] (vs := [.pointer _, .string _, .slice _ _ _]) rfl rfl rfl (take_ok b2 m x w0 wr _ _ k h_u (RT.ext E_u) (PW.ext (Ext.trans (Ext.trans (Ext.trans E1 E_k) E2) E_u)) (ER.ext (Ext.trans (Ext.trans (Ext.trans E1 E_k) E2) E_u)) (fun y hy => by have := hwn y (by simp [hy]); omega) (by omega) KA KL (by omega) (by omega)) ?_
              rintro _ h5 _ E5 ⟨rfl, x', rfl, AM'⟩
              refine dw_norm [_, _, _, _, _] rfl ?_
              cases q : numsR (belR w0) (kindR w0).2 wr with
              | none =>
                rw [q] at hro AM'
                refine dw_pureG (i := 14) rfl (by decide +kernel) rfl hg2 (pv_of (v := .bool _) rfl) ?_
                refine dw_pure (i := 15) rfl (by decide +kernel) (pv_pickF rfl hg2 (v := .bool _) rfl) ?_
                refine dw_end rfl ?_
                refine xp_condT rfl (rfl) ?_
                refine xp_seq ?_
                refine xp_region rfl ?_
                refine op_pure (pv_build (zc := [_, _, _, _, _, _, _, _, _]) (vs := []) (cs := [_, _, _, _, _, _, _, _, _]) rfl rfl rfl rfl rfl rfl) ?_
                refine op_pure (pv_move (v := .int .i64 _) rfl) ?_
                refine op_pure (pv_arith rfl (by omega)) ?_
                refine op_storeP 0 (v := .agg #[.int .i64 _, .int .i64 _, .int .i64 _, .int .i64 _, .int .i64 _, .slice _ _ _, .slice _ _ _, .slice _ _ _, .slice _ _ _]) (vs := [_, _, _, _, _, _, _, _, _]) (c' := [_, _, _, _, _, _, _, _, _]) rfl rfl rfl rfl rfl rfl rfl rfl rfl ?_
                refine wp_norm [_, _, _, _, _] rfl ?_
                refine op_pure (pv_assign (v := .int .i64 _) rfl) ?_
                refine op_pure (pv_assign (v := .int .i64 _) rfl) ?_
                refine xp_ret ?_
                refine res_list (vs := [_, _, _]) Tryz.results12 ⟨resV_agg 0 rfl rfl rfl rfl rfl (vs := [.int .i64 _, .int .i64 _, .int .i64 _, .int .i64 _, .int .i64 _, .slice _ _ _, .slice _ _ _, .slice _ _ _, .slice _ _ _]) rfl, resV_tmp rfl rfl, resV_tmp rfl rfl, trivial⟩ fun V => ?_
                exact ⟨(Ext.trans (Ext.trans (Ext.trans (Ext.trans (Ext.trans E1 E_k) E2) E_u) E5) (ext_wl V)), readV_of (readM_badI hlen' (by rw [← hrows, K2]; exact goR_stop (by rw [hkb]; exact hro))) (machV0 _)⟩
              | some l =>
                rw [q] at hro AM'
                refine dw_pureG (i := 14) rfl (by decide +kernel) rfl hg2 (pv_of (v := .bool _) rfl) ?_
                refine dw_pure (i := 15) rfl (by decide +kernel) (pv_pickF rfl hg2 (v := .bool _) rfl) ?_
                refine dw_end rfl ?_
                refine xp_condF rfl (rfl) ?_
                refine xp_skip ?_
                refine xp_region rfl ?_
                refine op_pure (pv_move (v := .int .i64 _) rfl) ?_
                refine op_pure (pv_assign (v := .int .i64 _) rfl) ?_
                refine xp_region rfl ?_
                refine op_pure (pv_arith rfl (by omega)) ?_
                refine op_pure (pv_move (v := .int .i64 _) rfl) ?_
                refine ⟨(k + 1, (kindR w0).1, takeM m (kindR w0).1 l, x'), ⟨rfl, intE (by omega), trivial⟩, rfl, rfl, (Ext.trans (Ext.trans (Ext.trans E_k E2) E_u) E5), fun h3 E3 => ⟨by omega, by rw [K2]; exact goR_next (by rw [hkb]; exact hro), ⟨fun h => absurd h (by omega), fun h => by omega⟩, by omega, AM', takeM_len KL _ _, fun h => absurd h (by omega)⟩, by first | omega | (dsimp only; omega), ?_⟩
                repeat (first | exact off_base _ _ _ | refine off_upd (by decide) ?_ | refine off_updL rfl ?_ | refine off_mix rfl ?_)
    · skip
      have hke : k = rows.length - 1 := by have := of_decide_eq_false hk; omega
      subst hke
      have hdr : rows.dropLast.drop (rows.length - 1) = [] := List.drop_eq_nil_of_le (by omega)
      rw [hdr] at K2
      have hgo : goR 0 (-1) m0 (splitL 10 t).dropLast = (0, a_, m) := by rw [← hrows, K2]; rfl
      have hnl : rows.length - 1 < rows.length := by omega
      have hgl : (splitL 10 t).getLast? = some rows[rows.length - 1] := by rw [← hrows, List.getLast?_eq_getElem?, List.getElem?_eq_getElem hnl]
      obtain ⟨g, off, hA, hc⟩ := (RR.ext E_k).at (by decide) hnl
      refine xp_exit ?_
      by_cases h5 : a_ = 5
      · have hg : decide (max 0 (a_ - 1) < 4) = false := by rw [h5]; decide
        refine xp_seq ?_
        refine xp_seq ?_
        refine xp_region rfl ?_
        refine op_pure (pv_move (v := .int .i64 _) rfl) ?_
        refine op_pure (pv_of (v := .bool _) rfl) ?_
        refine op_pure (pv_move (v := .bool _) rfl) ?_
        refine guard_yes rfl hg ?_
        refine op_pure (pv_move (v := .slice _ _ _) rfl) ?_
        refine guard_yes rfl hg ?_
        refine op_pure (pv_move (v := .int .i64 _) rfl) ?_
        refine guard_yes rfl hg ?_
        refine op_pure (pv_indexE rfl hA rfl rfl rfl (by omega) (by omega)) ?_
        refine guard_yes rfl hg ?_
        refine op_load (v := .string (bs rows[rows.length - 1])) rfl rfl (by rw [show ((rows.length : Int) - 1).toNat = rows.length - 1 by omega]; exact hc 0 _ rfl) ?_
        refine guard_yes rfl hg ?_
        refine op_pure (pv_strne rfl rfl) ?_
        refine op_pure (pv_pickF rfl hg (v := .bool _) rfl) ?_
        refine xp_cond rfl (fun hE => ?_) (fun hE => ?_)
        · skip
          have hE' : ¬ rows[rows.length - 1] = [] := by simpa using hE
          refine xp_seq ?_
          refine xp_region rfl ?_
          refine op_pure (pv_build (zc := [_, _, _, _, _, _, _, _, _]) (vs := []) (cs := [_, _, _, _, _, _, _, _, _]) rfl rfl rfl rfl rfl rfl) ?_
          refine op_pure (pv_move (v := .int .i64 _) rfl) ?_
          refine op_pure (pv_arith rfl (by omega)) ?_
          refine op_storeP 0 (v := .agg #[.int .i64 _, .int .i64 _, .int .i64 _, .int .i64 _, .int .i64 _, .slice _ _ _, .slice _ _ _, .slice _ _ _, .slice _ _ _]) (vs := [_, _, _, _, _, _, _, _, _]) (c' := [_, _, _, _, _, _, _, _, _]) rfl rfl rfl rfl rfl rfl rfl rfl rfl ?_
          refine wp_norm [_, _, _, _, _] rfl ?_
          refine op_pure (pv_assign (v := .int .i64 _) rfl) ?_
          refine op_pure (pv_assign (v := .int .i64 _) rfl) ?_
          refine xp_ret ?_
          refine res_list (vs := [_, _, _]) Tryz.results12 ⟨resV_agg 0 rfl rfl rfl rfl rfl (vs := [.int .i64 _, .int .i64 _, .int .i64 _, .int .i64 _, .int .i64 _, .slice _ _ _, .slice _ _ _, .slice _ _ _, .slice _ _ _]) rfl, resV_tmp rfl rfl, resV_tmp rfl rfl, trivial⟩ fun V => ?_
          exact ⟨(Ext.trans (Ext.trans E1 E_k) (ext_wl V)), readV_of (readM_endI hlen' hgo (.inr (by rw [hgl]; intro e; exact hE' (Option.some.inj e))) (by rw [← hrows]; omega)) (machV0 _)⟩
        · skip
          have hE' : rows[rows.length - 1] = [] := by simpa using hE
          have hok : ¬ (a_ ≠ 5 ∨ (splitL 10 t).getLast? ≠ some []) := by
            rintro (h | h)
            · exact h h5
            · exact h (by rw [hgl, hE'])
          obtain ⟨⟨pB, AB, nB, cB⟩, ⟨pQ, AQ, nQ, cQ⟩, ⟨pL, AL, nL, cL⟩, ⟨pW, AW, nW, cW⟩⟩ := x
          obtain ⟨kB, kQ, kL, kW⟩ := KA
          obtain rfl : nB = m.buttons.length := by have := AccR.len kB; rw [flat_len (m := 1) (fun _ _ => rfl)] at this; dsimp only at this; omega
          obtain rfl : nQ = m.pins.length := by have := AccR.len kQ; rw [flat_len (m := 3) (fun _ _ => rfl)] at this; dsimp only at this; omega
          obtain rfl : nL = m.links.length := by have := AccR.len kL; rw [flat_len (m := 4) (fun _ _ => rfl)] at this; dsimp only at this; omega
          obtain rfl : nW = m.weights.length := by have := AccR.len kW; rw [flat_len (m := 1) (fun _ _ => rfl)] at this; dsimp only at this; omega
          dsimp only at *
          have lw := KL.w
          refine goes_pubO 1 rfl ?_
          intro gB GB PB
          refine goes_norm [_, _, _, _, _] rfl ?_
          refine goes_pubO 2 rfl ?_
          intro gQ GQ PQ
          refine goes_norm [_, _, _, _, _] rfl ?_
          refine goes_pubO 3 rfl ?_
          intro gL GL PL
          refine goes_norm [_, _, _, _, _] rfl ?_
          refine goes_pubO 4 rfl ?_
          intro gW GW PW2
          refine goes_norm [_, _, _, _, _] rfl ?_
          have RM : MachR gW AB AQ AL AW m := ⟨⟨fun _ _ => rfl, (AccR.rd kB PB).ext (Ext.trans (Ext.trans GQ GL) GW)⟩, ⟨fun _ _ => rfl, (AccR.rd kQ PQ).ext (Ext.trans GL GW)⟩, ⟨fun _ _ => rfl, (AccR.rd kL PL).ext GW⟩, ⟨fun _ _ => rfl, AccR.rd kW PW2⟩⟩
          refine xp_skip ?_
          refine xp_seq ?_
          refine xp_seq ?_
          refine xp_region rfl ?_
          refine op_loadPA 0 (vs := [.int .i64 _, .int .i64 _, .int .i64 _, .int .i64 _, .int .i64 _, .slice _ _ _, .slice _ _ _, .slice _ _ _, .slice _ _ _]) rfl rfl rfl rfl rfl ?_
          refine op_fn (caps := []) (vs := [.agg #[.int .i64 _, .int .i64 _, .int .i64 _, .int .i64 _, .int .i64 _, .slice _ _ _, .slice _ _ _, .slice _ _ _, .slice _ _ _]]) rfl rfl rfl (Check_ok m AB AQ AL AW cB cQ cL cW gW RM (by omega)) ?_
          rintro _ h6 E6 rfl
          refine op_pure (pv_assign (v := .int .i64 _) rfl) ?_
          refine xp_seq ?_
          refine xp_region rfl ?_
          refine op_pure (pv_move (v := .int .i64 _) rfl) ?_
          refine op_pure (pv_of (v := .bool _) rfl) ?_
          refine xp_cond rfl (fun hcc => ?_) (fun hcc => ?_)
          · skip
            have hcc' : chkM m ≠ 0 := by simpa using hcc
            refine xp_seq ?_
            refine xp_region rfl ?_
            refine op_pure (pv_build (zc := [_, _, _, _, _, _, _, _, _]) (vs := []) (cs := [_, _, _, _, _, _, _, _, _]) rfl rfl rfl rfl rfl rfl) ?_
            refine op_pure (pv_move (v := .int .i64 _) rfl) ?_
            refine op_storeP 0 (v := .agg #[.int .i64 _, .int .i64 _, .int .i64 _, .int .i64 _, .int .i64 _, .slice _ _ _, .slice _ _ _, .slice _ _ _, .slice _ _ _]) (vs := [_, _, _, _, _, _, _, _, _]) (c' := [_, _, _, _, _, _, _, _, _]) rfl rfl rfl rfl rfl rfl rfl rfl rfl ?_
            refine wp_norm [_, _, _, _, _] rfl ?_
            refine op_pure (pv_assign (v := .int .i64 _) rfl) ?_
            refine op_pure (pv_assign (v := .int .i64 _) rfl) ?_
            refine xp_ret ?_
            refine res_list (vs := [_, _, _]) Tryz.results12 ⟨resV_agg 0 rfl rfl rfl rfl rfl (vs := [.int .i64 _, .int .i64 _, .int .i64 _, .int .i64 _, .int .i64 _, .slice _ _ _, .slice _ _ _, .slice _ _ _, .slice _ _ _]) rfl, resV_tmp rfl rfl, resV_tmp rfl rfl, trivial⟩ fun V => ?_
            exact ⟨(Ext.trans (Ext.trans (Ext.trans (Ext.trans (Ext.trans (Ext.trans (Ext.trans E1 E_k) GB) GQ) GL) GW) E6) (ext_wl V)), readV_of (readM_chk hlen' hgo hok hcc') (machV0 _)⟩
          · skip
            have hcc' : ¬ chkM m ≠ 0 := by simpa using hcc
            refine xp_skip ?_
            refine xp_seq ?_
            refine xp_region rfl ?_
            refine op_loadPA 0 (vs := [.int .i64 _, .int .i64 _, .int .i64 _, .int .i64 _, .int .i64 _, .slice _ _ _, .slice _ _ _, .slice _ _ _, .slice _ _ _]) rfl rfl rfl rfl rfl ?_
            refine op_storeP 0 (v := .agg #[.int .i64 _, .int .i64 _, .int .i64 _, .int .i64 _, .int .i64 _, .slice _ _ _, .slice _ _ _, .slice _ _ _, .slice _ _ _]) (vs := [_, _, _, _, _, _, _, _, _]) (c' := [_, _, _, _, _, _, _, _, _]) rfl rfl rfl rfl rfl rfl rfl rfl rfl ?_
            refine wp_norm [_, _, _, _, _] rfl ?_
            refine op_pure (pv_assign (v := .int .i64 _) rfl) ?_
            refine op_pure (pv_assign (v := .int .i64 _) rfl) ?_
            refine xp_ret ?_
            refine res_list (vs := [_, _, _]) Tryz.results12 ⟨resV_agg 0 rfl rfl rfl rfl rfl (vs := [.int .i64 _, .int .i64 _, .int .i64 _, .int .i64 _, .int .i64 _, .slice _ _ _, .slice _ _ _, .slice _ _ _, .slice _ _ _]) rfl, resV_tmp rfl rfl, resV_tmp rfl rfl, trivial⟩ fun V => ?_
            exact ⟨(Ext.trans (Ext.trans (Ext.trans (Ext.trans (Ext.trans (Ext.trans (Ext.trans E1 E_k) GB) GQ) GL) GW) E6) (ext_wl V)), readV_of (readM_ok hlen' hgo hok hcc') ⟨_, _, _, _, rfl, ⟨AB, cB, rfl, RM.b.ext (Ext.trans E6 (ext_wl V))⟩, ⟨AQ, cQ, rfl, RM.q.ext (Ext.trans E6 (ext_wl V))⟩, ⟨AL, cL, rfl, RM.l.ext (Ext.trans E6 (ext_wl V))⟩, ⟨AW, cW, rfl, RM.w.ext (Ext.trans E6 (ext_wl V))⟩⟩⟩
      · skip
        have hg : decide (max 0 (a_ - 1) < 4) = true := decide_eq_true (by omega)
        refine xp_seq ?_
        refine xp_seq ?_
        refine xp_region rfl ?_
        refine op_pure (pv_move (v := .int .i64 _) rfl) ?_
        refine op_pure (pv_of (v := .bool _) rfl) ?_
        refine op_pure (pv_move (v := .bool _) rfl) ?_
        refine guard_no rfl hg ?_
        refine guard_no rfl hg ?_
        refine guard_no rfl hg ?_
        refine guard_no rfl hg ?_
        refine guard_no rfl hg ?_
        refine op_pure (pv_pickT rfl hg (v := .bool _) rfl) ?_
        refine xp_condT rfl (rfl) ?_
        refine xp_seq ?_
        refine xp_region rfl ?_
        refine op_pure (pv_build (zc := [_, _, _, _, _, _, _, _, _]) (vs := []) (cs := [_, _, _, _, _, _, _, _, _]) rfl rfl rfl rfl rfl rfl) ?_
        refine op_pure (pv_move (v := .int .i64 _) rfl) ?_
        refine op_pure (pv_arith rfl (by omega)) ?_
        refine op_storeP 0 (v := .agg #[.int .i64 _, .int .i64 _, .int .i64 _, .int .i64 _, .int .i64 _, .slice _ _ _, .slice _ _ _, .slice _ _ _, .slice _ _ _]) (vs := [_, _, _, _, _, _, _, _, _]) (c' := [_, _, _, _, _, _, _, _, _]) rfl rfl rfl rfl rfl rfl rfl rfl rfl ?_
        refine wp_norm [_, _, _, _, _] rfl ?_
        refine op_pure (pv_assign (v := .int .i64 _) rfl) ?_
        refine op_pure (pv_assign (v := .int .i64 _) rfl) ?_
        refine xp_ret ?_
        refine res_list (vs := [_, _, _]) Tryz.results12 ⟨resV_agg 0 rfl rfl rfl rfl rfl (vs := [.int .i64 _, .int .i64 _, .int .i64 _, .int .i64 _, .int .i64 _, .slice _ _ _, .slice _ _ _, .slice _ _ _, .slice _ _ _]) rfl, resV_tmp rfl rfl, resV_tmp rfl rfl, trivial⟩ fun V => ?_
        exact ⟨(Ext.trans (Ext.trans E1 E_k) (ext_wl V)), readV_of (readM_endI hlen' hgo (.inl h5) (by rw [← hrows]; omega)) (machV0 _)⟩
end
end Go.Proofs.YtmpahfdiebhdbaaGreatDoor
/- Walks of package rod: all faults; copies. Conditions: as each theorem states. -/
namespace Go.Proofs.YtmpahfdiebhdbaaGreatDoor
open Go Go.HL Go.Proofs Go.Wx Go.Rd
section
variable [Lvl]
set_option maxRecDepth 100000
def faultV : FaultP → Value
  | .shut i => .iface 126 (.int .i64 i)
  | .opn i => .iface 127 (.int .i64 i)
  | .pin i => .iface 128 (.int .i64 i)
  | .link i => .iface 129 (.int .i64 i)
def faultC (f : FaultP) : List Value := [faultV f]
def fsN (c : Nat → FaultP) (k : Nat) : List FaultP := (List.range k).map c
theorem fsN_succ (c : Nat → FaultP) (k : Nat) : fsN c (k + 1) = fsN c k ++ [c k] := by simp [fsN, List.range_succ]
theorem fsN_len (c : Nat → FaultP) (k : Nat) : (fsN c k).length = k := by simp [fsN]
def fs1 (m : MachP) : List FaultP := fsN .shut m.levers.toNat
def fs2 (m : MachP) : List FaultP := fs1 m ++ fsN .opn m.levers.toNat
def fs3 (m : MachP) : List FaultP := fs2 m ++ fsN .pin m.pins.length
/-- All faults of a machine, in order. -/
def faultsM (m : MachP) : List FaultP := fs3 m ++ fsN .link m.links.length
theorem faults_len (m : MachP) : (faultsM m).length = 2 * m.levers.toNat + m.pins.length + m.links.length := by
  simp [faultsM, fs3, fs2, fs1, fsN_len]; omega
theorem fa_step {l : List FaultP} {c : Nat → FaultP} {k : Nat} {a : Acc} (h : AccR 125 1 ((l ++ fsN c k).flatMap faultC ++ [faultV (c k)]) a) : AccR 125 1 ((l ++ fsN c (k + 1)).flatMap faultC) a := by
  rw [fsN_succ, ← List.append_assoc, List.flatMap_append]
  exact h
theorem fa_len {l : List FaultP} {c : Nat → FaultP} {k : Nat} : ((l ++ fsN c k).flatMap faultC).length = l.length + k := by
  rw [flat_len (m := 1) (fun _ _ => rfl), List.length_append, fsN_len, Nat.mul_one]
theorem faults_okC (m : MachP) (h1 : 0 ≤ m.levers ∧ m.levers ≤ 2 ^ 20) (h2 : m.pins.length ≤ 2 ^ 20) (h3 : m.links.length ≤ 2 ^ 20) (AB AQ AL AW : Option Addr) (cB cQ cL cW : Nat) (h : AH) :
    FnT Tryz.prog 48 #[machV AB AQ AL AW cB cQ cL cW m] h (fun v h' => SlR h' 1 faultC (faultsM m) v ∧ CapOK v) := by
  have hle : m.levers = ((m.levers.toNat : Nat) : Int) := by omega
  generalize hn : m.levers.toNat = n at *
  refine call_body Tryz.func48 rfl Tryz.ntmps48 rfl ?_
  refine xp_seq ?_
  refine xp_region rfl ?_
  refine op_box (v := .agg #[.int .i64 _, .int .i64 _, .int .i64 _, .int .i64 _, .int .i64 _, .slice _ _ _, .slice _ _ _, .slice _ _ _, .slice _ _ _]) (cs := [_, _, _, _, _, _, _, _, _]) rfl rfl fun b1 hb1 => ?_
  refine wp_norm [_] rfl ?_
  refine op_pure (pv_assign (v := .slice _ _ _) rfl) ?_
  refine xp_seq ?_
  refine xp_region rfl ?_
  refine op_pure (pv_assign (v := .slice _ _ _) rfl) ?_
  refine xp_seq ?_
  refine xp_seq ?_
  refine xp_region rfl ?_
  refine op_pure (pv_fieldAddr rfl rfl rfl rfl 1 rfl) ?_
  refine op_loadP 0 (v := .int .i64 _) rfl rfl rfl rfl ?_
  refine op_pure (pv_move (v := .int .i64 _) rfl) ?_
  refine xp_block ?_
  refine goes_more ?_
  refine goes_norm [_, _] rfl ?_
  rw [hle]
  refine xp_loopL [3, 4, 10, 11, 12, 13, 14, 15, 16, 17, 18] 2 (α := Nat × Acc) (fun ⟨k, a⟩ => [(3, .slice a.A a.n a.c), (10, .int .i64 k)]) (fun ⟨k, a⟩ L => L.set 1 (a.p)) (fun ⟨k, a⟩ h_k => k ≤ n ∧ AccR 125 1 (([] ++ fsN .shut k).flatMap faultC) a) (fun ⟨k, a⟩ => n - k) ((0, acc0)) ⟨rfl, rfl, trivial⟩ (rfl) (⟨Nat.zero_le _, accR0⟩) ?_
  rintro ⟨k, a⟩ T1 h_k E_k J_k
  refine goes_norm [_, _] rfl ?_
  obtain ⟨K1, K2⟩ := J_k
  refine xp_seq ?_
  refine xp_region rfl ?_
  refine op_pure (pv_of (v := .bool _) rfl) ?_
  refine xp_seq ?_
  refine xp_cond rfl (fun hk => ?_) (fun hk => ?_)
  · skip
    have hkl : k < n := ltI hk
    refine xp_skip ?_
    refine xp_seq ?_
    refine xp_block ?_
    refine xp_seq ?_
    refine xp_region rfl ?_
    refine op_pure (pv_move (v := .int .i64 _) rfl) ?_
    refine op_pure (pv_assign (v := .int .i64 _) rfl) ?_
    refine xp_region rfl ?_
    refine op_pure (pv_move (v := .slice _ _ _) rfl) ?_
    refine op_pure (pv_move (v := .int .i64 _) rfl) ?_
    refine op_pure (pv_of (v := _) rfl) ?_
    refine op_buildSlice (zc := [_]) (vs := [(0, _)]) (cs := [_]) rfl rfl rfl rfl rfl rfl rfl fun b16 hb16 => ?_
    refine wp_norm [_, _, _] rfl ?_
    refine op_appendR 1 K2 rfl rfl rfl (fun V => rdP V (i := 2) rfl) rfl rfl rfl rfl rfl rfl rfl rfl rfl (by omega) rfl (by rw [fa_len]; simp; omega) fun a2 h2a E2a ha2 => ?_
    refine wp_norm [_, _, _] rfl ?_
    refine op_pure (pv_assign (v := .slice _ _ _) rfl) ?_
    refine xp_region rfl ?_
    refine op_pure (pv_arith rfl (by omega)) ?_
    refine op_pure (pv_move (v := .int .i64 _) rfl) ?_
    refine ⟨(k + 1, a2), ⟨rfl, rfl, trivial⟩, rfl, rfl, (Ext.trans E_k E2a), fun h3 E3 => ⟨hkl, fa_step ha2⟩, by first | omega | (dsimp only; omega), ?_⟩
    repeat (first | exact off_base _ _ _ | refine off_upd (by decide) ?_ | refine off_updL rfl ?_ | refine off_mix rfl ?_)
  · skip
    have hke : k = n := by have := geI hk; omega
    have K3 : AccR 125 1 ((fs1 m).flatMap faultC) a := by rw [fs1, hn, ← hke]; exact K2
    have n1 : (fs1 m).length = n := by rw [fs1, fsN_len, hn]
    refine xp_exit ?_
    refine xp_seq ?_
    refine xp_seq ?_
    refine xp_region rfl ?_
    refine op_pure (pv_fieldAddr rfl rfl rfl rfl 1 rfl) ?_
    refine op_loadP 0 (v := .int .i64 _) rfl rfl rfl rfl ?_
    refine op_pure (pv_move (v := .int .i64 _) rfl) ?_
    refine xp_block ?_
    refine xp_loopL [3, 5, 21, 22, 23, 24, 25, 26, 27, 28, 29] 2 (α := Nat × Acc) (fun ⟨j, a⟩ => [(3, .slice a.A a.n a.c), (21, .int .i64 j)]) (fun ⟨j, a⟩ L => L.set 1 (a.p)) (fun ⟨j, a⟩ h_j => j ≤ n ∧ AccR 125 1 ((fs1 m ++ fsN .opn j).flatMap faultC) a) (fun ⟨j, a⟩ => n - j) ((0, a)) ⟨rfl, rfl, trivial⟩ (rfl) (⟨Nat.zero_le _, by simpa [fsN] using K3⟩) ?_
    rintro ⟨j, a⟩ T3 h_j E_j J_j
    refine goes_norm [_, _] rfl ?_
    obtain ⟨K4, K5⟩ := J_j
    refine xp_seq ?_
    refine xp_region rfl ?_
    refine op_pure (pv_of (v := .bool _) rfl) ?_
    refine xp_seq ?_
    refine xp_cond rfl (fun hj => ?_) (fun hj => ?_)
    · skip
      have hjl : j < n := ltI hj
      refine xp_skip ?_
      refine xp_seq ?_
      refine xp_block ?_
      refine xp_seq ?_
      refine xp_region rfl ?_
      refine op_pure (pv_move (v := .int .i64 _) rfl) ?_
      refine op_pure (pv_assign (v := .int .i64 _) rfl) ?_
      refine xp_region rfl ?_
      refine op_pure (pv_move (v := .slice _ _ _) rfl) ?_
      refine op_pure (pv_move (v := .int .i64 _) rfl) ?_
      refine op_pure (pv_of (v := _) rfl) ?_
      refine op_buildSlice (zc := [_]) (vs := [(0, _)]) (cs := [_]) rfl rfl rfl rfl rfl rfl rfl fun b27 hb27 => ?_
      refine wp_norm [_, _, _] rfl ?_
      refine op_appendR 1 K5 rfl rfl rfl (fun V => rdP V (i := 2) rfl) rfl rfl rfl rfl rfl rfl rfl rfl rfl (by omega) rfl (by rw [fa_len]; simp; omega) fun a2 h4a E4a ha2 => ?_
      refine wp_norm [_, _, _] rfl ?_
      refine op_pure (pv_assign (v := .slice _ _ _) rfl) ?_
      refine xp_region rfl ?_
      refine op_pure (pv_arith rfl (by omega)) ?_
      refine op_pure (pv_move (v := .int .i64 _) rfl) ?_
      refine ⟨(j + 1, a2), ⟨rfl, rfl, trivial⟩, rfl, rfl, (Ext.trans E_j E4a), fun h3 E3 => ⟨hjl, fa_step ha2⟩, by first | omega | (dsimp only; omega), ?_⟩
      repeat (first | exact off_base _ _ _ | refine off_upd (by decide) ?_ | refine off_updL rfl ?_ | refine off_mix rfl ?_)
    · skip
      have hje : j = n := by have := geI hj; omega
      have K6 : AccR 125 1 ((fs2 m).flatMap faultC) a := by rw [fs2, hn, ← hje]; exact K5
      have n2 : (fs2 m).length = n + n := by rw [fs2, List.length_append, n1, fsN_len, hn]
      refine xp_exit ?_
      refine xp_seq ?_
      refine xp_seq ?_
      refine xp_region rfl ?_
      refine op_pure (pv_fieldAddr rfl rfl rfl rfl 6 rfl) ?_
      refine op_loadP 0 (v := .slice _ _ _) rfl rfl rfl rfl ?_
      refine op_pure (pv_len rfl rfl) ?_
      refine op_pure (pv_move (v := .int .i64 _) rfl) ?_
      refine xp_block ?_
      refine xp_loopL [3, 6, 33, 34, 35, 36, 37, 38, 39, 40, 41] 2 (α := Nat × Acc) (fun ⟨i, a⟩ => [(3, .slice a.A a.n a.c), (33, .int .i64 i)]) (fun ⟨i, a⟩ L => L.set 1 (a.p)) (fun ⟨i, a⟩ h_i => i ≤ m.pins.length ∧ AccR 125 1 ((fs2 m ++ fsN .pin i).flatMap faultC) a) (fun ⟨i, a⟩ => m.pins.length - i) ((0, a)) ⟨rfl, rfl, trivial⟩ (rfl) (⟨Nat.zero_le _, by simpa [fsN] using K6⟩) ?_
      rintro ⟨i, a⟩ T5 h_i E_i J_i
      refine goes_norm [_, _] rfl ?_
      obtain ⟨K7, K8⟩ := J_i
      refine xp_seq ?_
      refine xp_region rfl ?_
      refine op_pure (pv_of (v := .bool _) rfl) ?_
      refine xp_seq ?_
      refine xp_cond rfl (fun hi => ?_) (fun hi => ?_)
      · skip
        have hil : i < m.pins.length := ltI hi
        refine xp_skip ?_
        refine xp_seq ?_
        refine xp_block ?_
        refine xp_seq ?_
        refine xp_region rfl ?_
        refine op_pure (pv_move (v := .int .i64 _) rfl) ?_
        refine op_pure (pv_assign (v := .int .i64 _) rfl) ?_
        refine xp_region rfl ?_
        refine op_pure (pv_move (v := .slice _ _ _) rfl) ?_
        refine op_pure (pv_move (v := .int .i64 _) rfl) ?_
        refine op_pure (pv_of (v := _) rfl) ?_
        refine op_buildSlice (zc := [_]) (vs := [(0, _)]) (cs := [_]) rfl rfl rfl rfl rfl rfl rfl fun b39 hb39 => ?_
        refine wp_norm [_, _, _] rfl ?_
        refine op_appendR 1 K8 rfl rfl rfl (fun V => rdP V (i := 2) rfl) rfl rfl rfl rfl rfl rfl rfl rfl rfl (by omega) rfl (by rw [fa_len]; simp; omega) fun a2 h6a E6a ha2 => ?_
        refine wp_norm [_, _, _] rfl ?_
        refine op_pure (pv_assign (v := .slice _ _ _) rfl) ?_
        refine xp_region rfl ?_
        refine op_pure (pv_arith rfl (by omega)) ?_
        refine op_pure (pv_move (v := .int .i64 _) rfl) ?_
        refine ⟨(i + 1, a2), ⟨rfl, rfl, trivial⟩, rfl, rfl, (Ext.trans E_i E6a), fun h3 E3 => ⟨hil, fa_step ha2⟩, by first | omega | (dsimp only; omega), ?_⟩
        repeat (first | exact off_base _ _ _ | refine off_upd (by decide) ?_ | refine off_updL rfl ?_ | refine off_mix rfl ?_)
      · skip
        have hie : i = m.pins.length := by have := geI hi; omega
        have K9 : AccR 125 1 ((fs3 m).flatMap faultC) a := by rw [fs3, ← hie]; exact K8
        have n3 : (fs3 m).length = n + n + m.pins.length := by rw [fs3, List.length_append, n2, fsN_len]
        refine xp_exit ?_
        refine xp_seq ?_
        refine xp_seq ?_
        refine xp_region rfl ?_
        refine op_pure (pv_fieldAddr rfl rfl rfl rfl 7 rfl) ?_
        refine op_loadP 0 (v := .slice _ _ _) rfl rfl rfl rfl ?_
        refine op_pure (pv_len rfl rfl) ?_
        refine op_pure (pv_move (v := .int .i64 _) rfl) ?_
        refine xp_block ?_
        refine xp_loopL [3, 7, 45, 46, 47, 48, 49, 50, 51, 52, 53] 2 (α := Nat × Acc) (fun ⟨o, a⟩ => [(3, .slice a.A a.n a.c), (45, .int .i64 o)]) (fun ⟨o, a⟩ L => L.set 1 (a.p)) (fun ⟨o, a⟩ h_o => o ≤ m.links.length ∧ AccR 125 1 ((fs3 m ++ fsN .link o).flatMap faultC) a) (fun ⟨o, a⟩ => m.links.length - o) ((0, a)) ⟨rfl, rfl, trivial⟩ (rfl) (⟨Nat.zero_le _, by simpa [fsN] using K9⟩) ?_
        rintro ⟨o, a⟩ T7 h_o E_o J_o
        refine goes_norm [_, _] rfl ?_
        obtain ⟨K10, K11⟩ := J_o
        refine xp_seq ?_
        refine xp_region rfl ?_
        refine op_pure (pv_of (v := .bool _) rfl) ?_
        refine xp_seq ?_
        refine xp_cond rfl (fun ho => ?_) (fun ho => ?_)
        · skip
          have hol : o < m.links.length := ltI ho
          refine xp_skip ?_
          refine xp_seq ?_
          refine xp_block ?_
          refine xp_seq ?_
          refine xp_region rfl ?_
          refine op_pure (pv_move (v := .int .i64 _) rfl) ?_
          refine op_pure (pv_assign (v := .int .i64 _) rfl) ?_
          refine xp_region rfl ?_
          refine op_pure (pv_move (v := .slice _ _ _) rfl) ?_
          refine op_pure (pv_move (v := .int .i64 _) rfl) ?_
          refine op_pure (pv_of (v := _) rfl) ?_
          refine op_buildSlice (zc := [_]) (vs := [(0, _)]) (cs := [_]) rfl rfl rfl rfl rfl rfl rfl fun b51 hb51 => ?_
          refine wp_norm [_, _, _] rfl ?_
          refine op_appendR 1 K11 rfl rfl rfl (fun V => rdP V (i := 2) rfl) rfl rfl rfl rfl rfl rfl rfl rfl rfl (by omega) rfl (by rw [fa_len]; simp; omega) fun a2 h8a E8a ha2 => ?_
          refine wp_norm [_, _, _] rfl ?_
          refine op_pure (pv_assign (v := .slice _ _ _) rfl) ?_
          refine xp_region rfl ?_
          refine op_pure (pv_arith rfl (by omega)) ?_
          refine op_pure (pv_move (v := .int .i64 _) rfl) ?_
          refine ⟨(o + 1, a2), ⟨rfl, rfl, trivial⟩, rfl, rfl, (Ext.trans E_o E8a), fun h3 E3 => ⟨hol, fa_step ha2⟩, by first | omega | (dsimp only; omega), ?_⟩
          repeat (first | exact off_base _ _ _ | refine off_upd (by decide) ?_ | refine off_updL rfl ?_ | refine off_mix rfl ?_)
        · skip
          have hoe : o = m.links.length := by have := geI ho; omega
          have K12 : AccR 125 1 ((faultsM m).flatMap faultC) a := by rw [faultsM, ← hoe]; exact K11
          refine xp_exit ?_
          refine xp_seq ?_
          refine xp_region rfl ?_
          refine op_pure (pv_move (v := .slice _ _ _) rfl) ?_
          refine op_pure (pv_assign (v := .slice _ _ _) rfl) ?_
          refine xp_ret ?_
          refine res_list (vs := [_]) Tryz.results48 ⟨resV_tmp rfl rfl, trivial⟩ fun V => ?_
          exact ⟨(Ext.trans (Ext.trans (Ext.trans (Ext.trans E_k E_j) E_i) E_o) (ext_wl V)), AccP.row (i := 1) K12 (by omega) (fun _ _ => rfl) V rfl, AccP.cap K12 (by decide)⟩
theorem faults_ok (m : MachP) (h1 : 0 ≤ m.levers ∧ m.levers ≤ 2 ^ 20) (h2 : m.pins.length ≤ 2 ^ 20) (h3 : m.links.length ≤ 2 ^ 20) (AB AQ AL AW : Option Addr) (cB cQ cL cW : Nat) (h : AH) :
    FnT Tryz.prog 48 #[machV AB AQ AL AW cB cQ cL cW m] h (fun v h' => SlR h' 1 faultC (faultsM m) v) :=
  CallT.mono (faults_okC m h1 h2 h3 AB AQ AL AW cB cQ cL cW h) (fun _ _ r => ⟨r.1, r.2.1⟩) (fun _ _ y => y)
theorem accR_new {e : TypeId} {m : Nat} {b : Nat} : AccR e m [] ⟨some (b, .cells ([] : List Value).toArray e (0, 0)), some ⟨b, 0, none⟩, 0, 0⟩ := accp_new
theorem pinP (x : PinP) : (pinC x).all plainB = true := rfl
theorem linkP (x : LinkP) : (linkC x).all plainB = true := rfl
theorem clonePinO (l : List PinP) (A : Option Addr) (c : Nat) (h : AH) (R : Row h 3 pinC A l) (hl : l.length < 2 ^ 20) :
    FnM Tryz.prog (.func (.func 68) #[] ([] : List Value).toArray) [.slice A l.length c] h [] (fun v h' M' => ∃ a : Acc, M' = [a.p] ∧ v = .slice a.A a.n a.c ∧ AccR 65 3 (l.flatMap pinC) a) := by
  cases A with
  | none =>
    have h0 := R.none_nil (by omega)
    subst h0
    refine fnM_body rfl rfl Tryz.func68 rfl Tryz.ntmps68 rfl ?_
    refine xp_seq ?_
    refine xp_region rfl ?_
    refine op_pure (pv_assign (v := .slice _ _ _) rfl) ?_
    refine xp_seq ?_
    refine xp_seq ?_
    refine xp_region rfl ?_
    refine op_pure (pv_move (v := .slice _ _ _) rfl) ?_
    refine op_pure (pv_of (v := .bool _) rfl) ?_
    refine xp_cond rfl (fun ht => ?_) (fun ht => ?_)
    · skip
      refine xp_seq ?_
      refine xp_region rfl ?_
      refine op_pure (pv_assign (v := .slice _ _ _) rfl) ?_
      refine xp_ret ?_
      refine res_list (vs := [_]) Tryz.results68 ⟨resV_tmp rfl rfl, trivial⟩ fun V => ?_
      exact ⟨_, [none], rfl, V, (Ext.refl _), acc0, rfl, rfl, accR0⟩
    · cases ht
  | some a =>
    refine fnM_body rfl rfl Tryz.func68 rfl Tryz.ntmps68 rfl ?_
    refine xp_seq ?_
    refine xp_region rfl ?_
    refine op_pure (pv_assign (v := .slice _ _ _) rfl) ?_
    refine xp_seq ?_
    refine xp_seq ?_
    refine xp_region rfl ?_
    refine op_pure (pv_move (v := .slice _ _ _) rfl) ?_
    refine op_pure (pv_of (v := .bool _) rfl) ?_
    refine xp_cond rfl (fun ht => ?_) (fun ht => ?_)
    · cases ht
    · skip
      refine xp_skip ?_
      refine xp_seq ?_
      refine xp_region rfl ?_
      refine op_buildSlice (zc := [_, _, _]) (vs := []) (cs := []) rfl rfl rfl rfl rfl rfl rfl fun b5 hb5 => ?_
      refine wp_norm [_] rfl ?_
      refine op_pure (pv_move (v := .slice _ _ _) rfl) ?_
      refine op_appendR 0 accR_new rfl rfl rfl (fun V => R.2.ext (ext_wl V)) (flat_len R.1) (flat_plain pinP l) rfl rfl rfl rfl rfl rfl rfl (by omega) rfl (by rw [flat_len R.1, List.length_nil]; omega) fun a2 h1a E1a ha2 => ?_
      refine wp_norm [_] rfl ?_
      refine op_pure (pv_assign (v := .slice _ _ _) rfl) ?_
      refine xp_ret ?_
      refine res_list (vs := [_]) Tryz.results68 ⟨resV_tmp rfl rfl, trivial⟩ fun V => ?_
      exact ⟨_, [_], rfl, V, E1a, a2, rfl, rfl, ha2⟩
theorem cloneLinkO (l : List LinkP) (A : Option Addr) (c : Nat) (h : AH) (R : Row h 4 linkC A l) (hl : l.length < 2 ^ 20) :
    FnM Tryz.prog (.func (.func 69) #[] ([] : List Value).toArray) [.slice A l.length c] h [] (fun v h' M' => ∃ a : Acc, M' = [a.p] ∧ v = .slice a.A a.n a.c ∧ AccR 67 4 (l.flatMap linkC) a) := by
  cases A with
  | none =>
    have h0 := R.none_nil (by omega)
    subst h0
    refine fnM_body rfl rfl Tryz.func69 rfl Tryz.ntmps69 rfl ?_
    refine xp_seq ?_
    refine xp_region rfl ?_
    refine op_pure (pv_assign (v := .slice _ _ _) rfl) ?_
    refine xp_seq ?_
    refine xp_seq ?_
    refine xp_region rfl ?_
    refine op_pure (pv_move (v := .slice _ _ _) rfl) ?_
    refine op_pure (pv_of (v := .bool _) rfl) ?_
    refine xp_cond rfl (fun ht => ?_) (fun ht => ?_)
    · skip
      refine xp_seq ?_
      refine xp_region rfl ?_
      refine op_pure (pv_assign (v := .slice _ _ _) rfl) ?_
      refine xp_ret ?_
      refine res_list (vs := [_]) Tryz.results69 ⟨resV_tmp rfl rfl, trivial⟩ fun V => ?_
      exact ⟨_, [none], rfl, V, (Ext.refl _), acc0, rfl, rfl, accR0⟩
    · cases ht
  | some a =>
    refine fnM_body rfl rfl Tryz.func69 rfl Tryz.ntmps69 rfl ?_
    refine xp_seq ?_
    refine xp_region rfl ?_
    refine op_pure (pv_assign (v := .slice _ _ _) rfl) ?_
    refine xp_seq ?_
    refine xp_seq ?_
    refine xp_region rfl ?_
    refine op_pure (pv_move (v := .slice _ _ _) rfl) ?_
    refine op_pure (pv_of (v := .bool _) rfl) ?_
    refine xp_cond rfl (fun ht => ?_) (fun ht => ?_)
    · cases ht
    · skip
      refine xp_skip ?_
      refine xp_seq ?_
      refine xp_region rfl ?_
      refine op_buildSlice (zc := [_, _, _, _]) (vs := []) (cs := []) rfl rfl rfl rfl rfl rfl rfl fun b5 hb5 => ?_
      refine wp_norm [_] rfl ?_
      refine op_pure (pv_move (v := .slice _ _ _) rfl) ?_
      refine op_appendR 0 accR_new rfl rfl rfl (fun V => R.2.ext (ext_wl V)) (flat_len R.1) (flat_plain linkP l) rfl rfl rfl rfl rfl rfl rfl (by omega) rfl (by rw [flat_len R.1, List.length_nil]; omega) fun a2 h1a E1a ha2 => ?_
      refine wp_norm [_] rfl ?_
      refine op_pure (pv_assign (v := .slice _ _ _) rfl) ?_
      refine xp_ret ?_
      refine res_list (vs := [_]) Tryz.results69 ⟨resV_tmp rfl rfl, trivial⟩ fun V => ?_
      exact ⟨_, [_], rfl, V, E1a, a2, rfl, rfl, ha2⟩
end
end Go.Proofs.YtmpahfdiebhdbaaGreatDoor
/- Walks of package rod: a machine with faults. Conditions: as each theorem states. -/
namespace Go.Proofs.YtmpahfdiebhdbaaGreatDoor
open Go Go.HL Go.Proofs Go.Wx Go.Rd
section
variable [Lvl]
set_option maxRecDepth 100000
/-- What the closure of a machine with faults reads. -/
def BrkP (h : AH) (m : MachP) (l : List FaultP) (b1 b2 b3 b4 : Nat) : Prop :=
  ∃ ys, cellA h ⟨b1, 0, none⟩ = some ys ∧ SndV h (brkM m l) ys ∧ cellA h ⟨b2, 3, none⟩ = some (.int .i64 m.travel) ∧ cellA h ⟨b3, 0, none⟩ = some (.int .i64 ((brkF m l).stay : Nat)) ∧ cellA h ⟨b4, 0, none⟩ = some (.int .i64 ((brkF m l).dumb : Nat))
theorem BrkP.ext {h h' : AH} {m : MachP} {l : List FaultP} {b1 b2 b3 b4 : Nat} (r : BrkP h m l b1 b2 b3 b4) (e : Ext h h') : BrkP h' m l b1 b2 b3 b4 := by
  obtain ⟨ys, c1, s, c2, c3, c4⟩ := r
  exact ⟨ys, e.cell c1, s.ext e, e.cell c2, e.cell c3, e.cell c4⟩
/-- The closure of a machine with faults. -/
abbrev brkY (b1 b2 b3 b4 : Nat) : Value := .func (.func 70) #[] #[.pointer (some ⟨b1, 0, none⟩), .pointer (some ⟨b2, 0, none⟩), .pointer (some ⟨b3, 0, none⟩), .pointer (some ⟨b4, 0, none⟩)]
def BrkV (h : AH) (m : MachP) (l : List FaultP) (y : Value) : Prop := ∃ b1 b2 b3 b4, y = brkY b1 b2 b3 b4 ∧ BrkP h m l b1 b2 b3 b4
theorem BrkV.ext {h h' : AH} {m : MachP} {l : List FaultP} {y : Value} (r : BrkV h m l y) (e : Ext h h') : BrkV h' m l y := by
  obtain ⟨b1, b2, b3, b4, hy, p⟩ := r
  exact ⟨b1, b2, b3, b4, hy, p.ext e⟩
theorem AccR.parts {e : TypeId} {m : Nat} {cs : List Value} {a : Acc} (r : AccR e m cs a) (hc : cs ≠ []) : ∃ b len cap junk, a = ⟨some (b, .cells (cs ++ junk).toArray e (0, 0)), some ⟨b, 0, none⟩, len, cap⟩ ∧ cs.length = len * m ∧ ∀ cs' : List Value, cs'.length = cs.length → AccR e m cs' ⟨some (b, .cells (cs' ++ junk).toArray e (0, 0)), some ⟨b, 0, none⟩, len, cap⟩ := by
  obtain ⟨p, A, n, c⟩ := a
  rcases r with ⟨_, h, _⟩ | ⟨b, len, cap, junk, hl, ev, hpp, hx⟩
  · exact absurd h hc
  · injection ev with e1 e2 e3
    dsimp only at e1 e2 e3 hpp
    subst e1 e2 e3 hpp
    exact ⟨b, n, c, junk, rfl, hl, fun cs' h' => .inr ⟨b, n, c, junk, by rw [h', hl], rfl, rfl, by rw [List.length_append, h', ← List.length_append]; exact hx⟩⟩
theorem cell_own {h : AH} {L : Pv} {i b off : Nat} {c : Array Value} {e : TypeId} {f : Nat × Nat} {v : Value} (V : Valid h L) (hi : L[i]? = some (some (b, .cells c e f))) (hv : c[off]? = some v) : cellA (wl h L) ⟨b, off, none⟩ = some v := by
  simp [cellA, wl_get V hi, hv]
set_option maxHeartbeats 8000000 in
theorem broken_ok (m : MachP) (M : MOK m) (l : List FaultP) (hf : ∀ f ∈ l, FOK m f) (hl : l.length < 2 ^ 20) (AB AQ AL AW AF : Option Addr) (cB cQ cL cW cF : Nat) (h : AH) (R : MachR h AB AQ AL AW m) (RF : Row h 1 faultC AF l) :
    FnT Tryz.prog 49 #[machV AB AQ AL AW cB cQ cL cW m, .slice AF l.length cF] h (fun v h' => BrkV h' m l v) := by
  have hpl := M.pl
  have hll := M.ll
  have hlv := M.levers
  refine call_body Tryz.func49 rfl Tryz.ntmps49 rfl ?_
  refine xp_seq ?_
  refine xp_region rfl ?_
  refine op_box (v := .agg #[.int .i64 _, .int .i64 _, .int .i64 _, .int .i64 _, .int .i64 _, .slice _ _ _, .slice _ _ _, .slice _ _ _, .slice _ _ _]) (cs := [_, _, _, _, _, _, _, _, _]) rfl rfl fun b2 hb2 => ?_
  refine wp_norm [_] rfl ?_
  refine op_pure (pv_assign (v := _) rfl) ?_
  refine xp_seq ?_
  refine xp_dw [] rfl rfl rfl ?_
  refine dw_pure (i := 0) rfl (by decide +kernel) (pv_fieldAddr rfl rfl rfl rfl 6 rfl) ?_
  refine dw_load (i := 1) rfl (by decide +kernel) ?_
  refine op_loadP 0 (v := .slice _ _ _) rfl rfl rfl rfl ?_
  refine dw_pure (i := 3) rfl (by decide +kernel) (pv_fieldAddr rfl rfl rfl rfl 7 rfl) ?_
  refine dw_load (i := 4) rfl (by decide +kernel) ?_
  refine op_loadP 0 (v := .slice _ _ _) rfl rfl rfl rfl ?_
  refine dw_eff (i := 2) rfl (by decide +kernel) ?_
  refine op_fnV rfl rfl (clonePinO m.pins AQ cQ h (R.q.ext (Ext.refl _)) (by omega)) ?_
  rintro _ h1 _ Vmn E1 ⟨a1, rfl, rfl, r1⟩
  refine ⟨ext_out Vmn E1, ?_⟩
  refine dw_norm [_, _] rfl ?_
  refine dw_last (i := 5) rfl (by decide +kernel) (by decide +kernel) ?_
  refine op_fnMM [_, _] [] [] rfl rfl rfl (cloneLinkO m.links AL cL h1 (R.l.ext E1) (by omega)) ?_
  rintro _ h2 _ E2 ⟨a2, rfl, rfl, r2⟩
  refine dw_norm [_, _, _] rfl ?_
  refine dw_pure (i := 6) rfl (by decide +kernel) (pv_assign (v := .slice _ _ _) rfl) ?_
  refine dw_pure (i := 7) rfl (by decide +kernel) (pv_assign (v := .slice _ _ _) rfl) ?_
  refine dw_end rfl ?_
  refine xp_seq ?_
  refine xp_region rfl ?_
  refine op_alloc (cs := [_]) rfl rfl fun b7 hb7 => ?_
  refine wp_norm [_, _, _, _] rfl ?_
  refine op_alloc (cs := [_]) rfl rfl fun b8 hb8 => ?_
  refine wp_norm [_, _, _, _, _] rfl ?_
  refine xp_seq ?_
  refine xp_seq ?_
  refine xp_region rfl ?_
  refine op_pure (pv_move (v := .slice _ _ _) rfl) ?_
  refine op_pure (pv_len rfl rfl) ?_
  refine op_pure (pv_move (v := .int .i64 _) rfl) ?_
  refine xp_block ?_
  refine xp_loopL [10, 11, 12, 13, 14, 24, 25, 26, 27, 28, 29, 30, 31, 32, 33, 34, 35, 36, 37, 38, 39, 40, 41, 42, 43, 44, 45, 46, 47, 48, 49, 50, 51, 52, 53, 54, 55, 56, 57, 58, 59] 5 (α := Nat × Option (Nat × Obj) × Option (Nat × Obj)) (fun ⟨k, pp, lp⟩ => [(24, .int .i64 k)]) (fun ⟨k, pp, lp⟩ L => (((L.set 1 (pp)).set 2 (lp)).set 3 (some (b7, .cells #[.int .i64 ((brkF m (l.take k)).stay : Nat)] 93 (0, 0)))).set 4 (some (b8, .cells #[.int .i64 ((brkF m (l.take k)).dumb : Nat)] 93 (0, 0)))) (fun ⟨k, pp, lp⟩ h_k => k ≤ l.length ∧ AccR 65 3 ((brkF m (l.take k)).pins.flatMap pinC) ⟨pp, a1.A, a1.n, a1.c⟩ ∧ AccR 67 4 ((brkF m (l.take k)).links.flatMap linkC) ⟨lp, a2.A, a2.n, a2.c⟩) (fun ⟨k, pp, lp⟩ => l.length - k) ((0, a1.p, a2.p)) ⟨rfl, trivial⟩ (rfl) (⟨Nat.zero_le _, r1, r2⟩) ?_
  rintro ⟨k, pp, lp⟩ T1 h_k E_k J_k
  refine goes_norm [_, _, _, _, _] rfl ?_
  obtain ⟨K1, K2, K3⟩ := J_k
  refine xp_seq ?_
  refine xp_region rfl ?_
  refine op_pure (pv_of (v := .bool _) rfl) ?_
  refine xp_seq ?_
  refine xp_cond rfl (fun hk => ?_) (fun hk => ?_)
  · skip
    have hkl : k < l.length := ltI hk
    obtain ⟨g, off, hA, hc⟩ := (RF.ext (Ext.trans (Ext.trans E1 E2) E_k)).at (by omega) hkl
    have hfk := hf _ (List.getElem_mem hkl)
    have hN := brkF_take (m := m) hkl
    have hbt := brk_bits hlv.2 (l := l.take k) (fun f hm => hf f (take_mem hm))
    have hpk := brk_pl m (l.take k)
    have hlk := brk_ll m (l.take k)
    generalize brkF m (l.take k) = bk at *
    obtain ⟨bp, bl, bs, bd⟩ := bk
    dsimp only at hbt hpk hlk K2 K3
    obtain ⟨fk, hfe⟩ : ∃ fk, fk = l[k] := ⟨_, rfl⟩
    rw [← hfe] at hc hfk hN
    dsimp only
    rcases fk with i | i | i | i
    · skip
      have hi6 : (i : Int) < m.levers := hfk
      refine xp_skip ?_
      refine xp_seq ?_
      refine xp_block ?_
      refine xp_seq ?_
      refine xp_region rfl ?_
      refine op_pure (pv_indexE rfl hA rfl rfl rfl (by omega) (by omega)) ?_
      refine op_load (v := _) rfl rfl ((hc) 0 _ rfl) ?_
      refine op_pure (pv_assign (v := _) rfl) ?_
      refine xp_seq ?_
      refine xp_region rfl ?_
      refine op_pure (pv_move (v := _) rfl) ?_
      refine xp_block ?_
      refine xp_seq ?_
      refine xp_region rfl ?_
      refine op_pure (pv_of (v := .tuple #[.int .i64 i, .bool true]) rfl) ?_
      refine op_pure (pv_of (v := .bool _) rfl) ?_
      refine op_pure (pv_of (v := .int .i64 _) rfl) ?_
      refine xp_condT rfl (rfl) ?_
      refine xp_seq ?_
      refine xp_region rfl ?_
      refine op_pure (pv_assign (v := .int .i64 _) rfl) ?_
      refine xp_region rfl ?_
      refine op_loadP 4 (v := .int .i64 _) rfl rfl rfl rfl ?_
      refine op_pure (pv_move (v := .int .i64 _) rfl) ?_
      refine op_fn (caps := []) (vs := [.int .i64 _, .int .i64 _]) rfl rfl rfl (with_ok bd i i rfl (by omega) (by omega) h_k) ?_
      rintro _ h3 E3 rfl
      refine op_storeP 4 (v := .int .i64 _) (vs := [_]) (c' := [_]) rfl rfl rfl rfl rfl rfl rfl rfl rfl ?_
      refine wp_norm [_, _, _, _, _] rfl ?_
      refine xp_region rfl ?_
      refine op_pure (pv_arith rfl (by omega)) ?_
      refine op_pure (pv_move (v := .int .i64 _) rfl) ?_
      refine ⟨(k + 1, pp, lp), ⟨rfl, trivial⟩, rfl, by rw [hN]; rfl, (Ext.trans E_k E3), fun h3 E3 => ⟨hkl, by rw [hN]; exact K2, by rw [hN]; exact K3⟩, by first | omega | (dsimp only; omega), ?_⟩
      repeat (first | exact off_base _ _ _ | refine off_upd (by decide) ?_ | refine off_updL rfl ?_ | refine off_mix rfl ?_)
    · skip
      have hi6 : (i : Int) < m.levers := hfk
      refine xp_skip ?_
      refine xp_seq ?_
      refine xp_block ?_
      refine xp_seq ?_
      refine xp_region rfl ?_
      refine op_pure (pv_indexE rfl hA rfl rfl rfl (by omega) (by omega)) ?_
      refine op_load (v := _) rfl rfl ((hc) 0 _ rfl) ?_
      refine op_pure (pv_assign (v := _) rfl) ?_
      refine xp_seq ?_
      refine xp_region rfl ?_
      refine op_pure (pv_move (v := _) rfl) ?_
      refine xp_block ?_
      refine xp_seq ?_
      refine xp_region rfl ?_
      refine op_pure (pv_of (v := .tuple #[.int .i64 0, .bool false]) rfl) ?_
      refine op_pure (pv_of (v := .bool _) rfl) ?_
      refine op_pure (pv_of (v := .int .i64 _) rfl) ?_
      refine xp_condF rfl (rfl) ?_
      refine xp_seq ?_
      refine xp_region rfl ?_
      refine op_pure (pv_of (v := .tuple #[.int .i64 i, .bool true]) rfl) ?_
      refine op_pure (pv_of (v := .bool _) rfl) ?_
      refine op_pure (pv_of (v := .int .i64 _) rfl) ?_
      refine xp_condT rfl (rfl) ?_
      refine xp_seq ?_
      refine xp_region rfl ?_
      refine op_pure (pv_assign (v := .int .i64 _) rfl) ?_
      refine xp_region rfl ?_
      refine op_loadP 3 (v := .int .i64 _) rfl rfl rfl rfl ?_
      refine op_pure (pv_move (v := .int .i64 _) rfl) ?_
      refine op_fn (caps := []) (vs := [.int .i64 _, .int .i64 _]) rfl rfl rfl (with_ok bs i i rfl (by omega) (by omega) h_k) ?_
      rintro _ h3 E3 rfl
      refine op_storeP 3 (v := .int .i64 _) (vs := [_]) (c' := [_]) rfl rfl rfl rfl rfl rfl rfl rfl rfl ?_
      refine wp_norm [_, _, _, _, _] rfl ?_
      refine xp_region rfl ?_
      refine op_pure (pv_arith rfl (by omega)) ?_
      refine op_pure (pv_move (v := .int .i64 _) rfl) ?_
      refine ⟨(k + 1, pp, lp), ⟨rfl, trivial⟩, rfl, by rw [hN]; rfl, (Ext.trans E_k E3), fun h3 E3 => ⟨hkl, by rw [hN]; exact K2, by rw [hN]; exact K3⟩, by first | omega | (dsimp only; omega), ?_⟩
      repeat (first | exact off_base _ _ _ | refine off_upd (by decide) ?_ | refine off_updL rfl ?_ | refine off_mix rfl ?_)
    · skip
      have hi6 : i < m.pins.length := hfk
      have hib : i < bp.length := by omega
      have hfl : (bp.flatMap pinC).length = bp.length * 3 := flat_len (fun _ _ => rfl)
      obtain ⟨gb, len, cap, junk, ha, hlen, put⟩ := AccR.parts K2 (by intro e; rw [e] at hfl; simp at hfl; omega)
      injection ha with q1 q2 q3 q4
      subst q1
      rw [← q2, ← q3, ← q4] at put
      refine xp_skip ?_
      refine xp_seq ?_
      refine xp_block ?_
      refine xp_seq ?_
      refine xp_region rfl ?_
      refine op_pure (pv_indexE rfl hA rfl rfl rfl (by omega) (by omega)) ?_
      refine op_load (v := _) rfl rfl ((hc) 0 _ rfl) ?_
      refine op_pure (pv_assign (v := _) rfl) ?_
      refine xp_seq ?_
      refine xp_region rfl ?_
      refine op_pure (pv_move (v := _) rfl) ?_
      refine xp_block ?_
      refine xp_seq ?_
      refine xp_region rfl ?_
      refine op_pure (pv_of (v := .tuple #[.int .i64 0, .bool false]) rfl) ?_
      refine op_pure (pv_of (v := .bool _) rfl) ?_
      refine op_pure (pv_of (v := .int .i64 _) rfl) ?_
      refine xp_condF rfl (rfl) ?_
      refine xp_seq ?_
      refine xp_region rfl ?_
      refine op_pure (pv_of (v := .tuple #[.int .i64 0, .bool false]) rfl) ?_
      refine op_pure (pv_of (v := .bool _) rfl) ?_
      refine op_pure (pv_of (v := .int .i64 _) rfl) ?_
      refine xp_condF rfl (rfl) ?_
      refine xp_seq ?_
      refine xp_region rfl ?_
      refine op_pure (pv_of (v := .tuple #[.int .i64 i, .bool true]) rfl) ?_
      refine op_pure (pv_of (v := .bool _) rfl) ?_
      refine op_pure (pv_of (v := .int .i64 _) rfl) ?_
      refine xp_condT rfl (rfl) ?_
      refine xp_seq ?_
      refine xp_region rfl ?_
      refine op_pure (pv_assign (v := .int .i64 _) rfl) ?_
      refine xp_region rfl ?_
      refine op_pure (pv_move (v := .slice _ _ _) rfl) ?_
      refine op_pure (pv_move (v := .int .i64 _) rfl) ?_
      refine op_pure (pv_fieldAddr rfl rfl rfl rfl 3 rfl) ?_
      refine op_loadP 0 (v := .int .i64 _) rfl rfl rfl rfl ?_
      refine op_pure (pv_indexE (m := 3) rfl q2 rfl rfl rfl (by omega) (by omega)) ?_
      refine op_pure (pv_fieldAddr rfl rfl rfl rfl _ rfl) ?_
      refine op_storeP 1 (m := 1) (off := 0 + (i : Int).toNat * 3 + 2) (v := .int .i64 m.travel) (vs := [.int .i64 m.travel]) (c' := (lagP bp i m.travel).flatMap pinC ++ junk) rfl rfl rfl rfl rfl rfl (Nat.ble_eq_true_of_le (by rw [List.length_append, hfl]; omega)) rfl (by rw [show 0 + (i : Int).toNat * 3 + 2 = i * 3 + 2 by omega, pin_wr hib]) ?_
      refine wp_norm [_, _, _, _, _] rfl ?_
      refine xp_region rfl ?_
      refine op_pure (pv_arith rfl (by omega)) ?_
      refine op_pure (pv_move (v := .int .i64 _) rfl) ?_
      refine ⟨(k + 1, some (gb, .cells ((lagP bp i m.travel).flatMap pinC ++ junk).toArray 65 (0, 0)), lp), ⟨rfl, trivial⟩, rfl, by rw [hN]; rfl, E_k, fun h3 E3 => ⟨hkl, by rw [hN]; exact put _ (by rw [hfl, flat_len (m := 3) (fun _ _ => rfl)]; exact congrArg (· * 3) (lagP_len _ _ _)), by rw [hN]; exact K3⟩, by first | omega | (dsimp only; omega), ?_⟩
      repeat (first | exact off_base _ _ _ | refine off_upd (by decide) ?_ | refine off_updL rfl ?_ | refine off_mix rfl ?_)
    · skip
      have hi6 : i < m.links.length := hfk
      have hib : i < bl.length := by omega
      have hfl : (bl.flatMap linkC).length = bl.length * 4 := flat_len (fun _ _ => rfl)
      obtain ⟨gb, len, cap, junk, ha, hlen, put⟩ := AccR.parts K3 (by intro e; rw [e] at hfl; simp at hfl; omega)
      injection ha with q1 q2 q3 q4
      subst q1
      rw [← q2, ← q3, ← q4] at put
      refine xp_skip ?_
      refine xp_seq ?_
      refine xp_block ?_
      refine xp_seq ?_
      refine xp_region rfl ?_
      refine op_pure (pv_indexE rfl hA rfl rfl rfl (by omega) (by omega)) ?_
      refine op_load (v := _) rfl rfl ((hc) 0 _ rfl) ?_
      refine op_pure (pv_assign (v := _) rfl) ?_
      refine xp_seq ?_
      refine xp_region rfl ?_
      refine op_pure (pv_move (v := _) rfl) ?_
      refine xp_block ?_
      refine xp_seq ?_
      refine xp_region rfl ?_
      refine op_pure (pv_of (v := .tuple #[.int .i64 0, .bool false]) rfl) ?_
      refine op_pure (pv_of (v := .bool _) rfl) ?_
      refine op_pure (pv_of (v := .int .i64 _) rfl) ?_
      refine xp_condF rfl (rfl) ?_
      refine xp_seq ?_
      refine xp_region rfl ?_
      refine op_pure (pv_of (v := .tuple #[.int .i64 0, .bool false]) rfl) ?_
      refine op_pure (pv_of (v := .bool _) rfl) ?_
      refine op_pure (pv_of (v := .int .i64 _) rfl) ?_
      refine xp_condF rfl (rfl) ?_
      refine xp_seq ?_
      refine xp_region rfl ?_
      refine op_pure (pv_of (v := .tuple #[.int .i64 0, .bool false]) rfl) ?_
      refine op_pure (pv_of (v := .bool _) rfl) ?_
      refine op_pure (pv_of (v := .int .i64 _) rfl) ?_
      refine xp_condF rfl (rfl) ?_
      refine xp_seq ?_
      refine xp_region rfl ?_
      refine op_pure (pv_of (v := .tuple #[.int .i64 i, .bool true]) rfl) ?_
      refine op_pure (pv_of (v := .bool _) rfl) ?_
      refine op_pure (pv_of (v := .int .i64 _) rfl) ?_
      refine xp_condT rfl (rfl) ?_
      refine xp_seq ?_
      refine xp_region rfl ?_
      refine op_pure (pv_assign (v := .int .i64 _) rfl) ?_
      refine xp_region rfl ?_
      refine op_pure (pv_move (v := .slice _ _ _) rfl) ?_
      refine op_pure (pv_move (v := .int .i64 _) rfl) ?_
      refine op_pure (pv_fieldAddr rfl rfl rfl rfl 3 rfl) ?_
      refine op_loadP 0 (v := .int .i64 _) rfl rfl rfl rfl ?_
      refine op_pure (pv_indexE (m := 4) rfl q2 rfl rfl rfl (by omega) (by omega)) ?_
      refine op_pure (pv_fieldAddr rfl rfl rfl rfl _ rfl) ?_
      refine op_storeP 2 (m := 1) (off := 0 + (i : Int).toNat * 4 + 3) (v := .int .i64 m.travel) (vs := [.int .i64 m.travel]) (c' := (lagL bl i m.travel).flatMap linkC ++ junk) rfl rfl rfl rfl rfl rfl (Nat.ble_eq_true_of_le (by rw [List.length_append, hfl]; omega)) rfl (by rw [show 0 + (i : Int).toNat * 4 + 3 = i * 4 + 3 by omega, link_wr hib]) ?_
      refine wp_norm [_, _, _, _, _] rfl ?_
      refine xp_region rfl ?_
      refine op_pure (pv_arith rfl (by omega)) ?_
      refine op_pure (pv_move (v := .int .i64 _) rfl) ?_
      refine ⟨(k + 1, pp, some (gb, .cells ((lagL bl i m.travel).flatMap linkC ++ junk).toArray 67 (0, 0))), ⟨rfl, trivial⟩, rfl, by rw [hN]; rfl, E_k, fun h3 E3 => ⟨hkl, by rw [hN]; exact K2, by rw [hN]; exact put _ (by rw [hfl, flat_len (m := 4) (fun _ _ => rfl)]; exact congrArg (· * 4) (lagL_len _ _ _))⟩, by first | omega | (dsimp only; omega), ?_⟩
      repeat (first | exact off_base _ _ _ | refine off_upd (by decide) ?_ | refine off_updL rfl ?_ | refine off_mix rfl ?_)
  · skip
    have hke : k = l.length := by have := geI hk; omega
    subst hke
    rw [List.take_length] at K2 K3 ⊢
    obtain ⟨pp0, pA, pn, pcap⟩ := a1
    obtain ⟨lp0, lA, ln, lcap⟩ := a2
    dsimp only at K2 K3
    obtain rfl : pn = (brkF m l).pins.length := by have := AccR.len K2; rw [flat_len (m := 3) (fun _ _ => rfl)] at this; dsimp only at this; omega
    obtain rfl : ln = (brkF m l).links.length := by have := AccR.len K3; rw [flat_len (m := 4) (fun _ _ => rfl)] at this; dsimp only at this; omega
    dsimp only
    refine goes_pubO 1 rfl ?_
    intro h3 E3 P3
    refine goes_norm [_, _, _, _, _] rfl ?_
    refine goes_pubO 2 rfl ?_
    intro h4 E4 P4
    refine goes_norm [_, _, _, _, _] rfl ?_
    refine xp_exit ?_
    refine xp_seq ?_
    refine xp_region rfl ?_
    refine op_pure (pv_move (v := .slice _ _ _) rfl) ?_
    refine op_pure (pv_move (v := .slice _ _ _) rfl) ?_
    refine op_pure (pv_fieldAddr rfl rfl rfl rfl 6 rfl) ?_
    refine op_storeP 0 (v := .slice _ _ _) (vs := [_]) (c' := [_, _, _, _, _, _, _, _, _]) rfl rfl rfl rfl rfl rfl rfl rfl rfl ?_
    refine wp_norm [_, _, _, _, _] rfl ?_
    refine op_pure (pv_fieldAddr rfl rfl rfl rfl 7 rfl) ?_
    refine op_storeP 0 (v := .slice _ _ _) (vs := [_]) (c' := [_, _, _, _, _, _, _, _, _]) rfl rfl rfl rfl rfl rfl rfl rfl rfl ?_
    refine wp_norm [_, _, _, _, _] rfl ?_
    refine xp_seq ?_
    refine xp_region rfl ?_
    refine op_loadPA 0 (vs := [.int .i64 _, .int .i64 _, .int .i64 _, .int .i64 _, .int .i64 _, .slice _ _ _, .slice _ _ _, .slice _ _ _, .slice _ _ _]) rfl rfl rfl rfl rfl ?_
    refine op_fn (caps := []) (vs := [.agg #[.int .i64 _, .int .i64 _, .int .i64 _, .int .i64 _, .int .i64 _, .slice _ _ _, .slice _ _ _, .slice _ _ _, .slice _ _ _]]) rfl rfl rfl (sounding_ok (brkM m l) AB pA lA AW cB pcap lcap cW h4 ⟨R.b.ext (Ext.trans (Ext.trans (Ext.trans (Ext.trans E1 E2) E_k) E3) E4), ⟨fun _ _ => rfl, (AccR.rd K2 P3).ext E4⟩, ⟨fun _ _ => rfl, (AccR.rd K3 P4).ext (Ext.refl _)⟩, R.w.ext (Ext.trans (Ext.trans (Ext.trans (Ext.trans E1 E2) E_k) E3) E4)⟩) ?_
    rintro _ h5 E5 S5
    obtain ⟨bs, AB1, AQ1, AL1, AW1, cB1, cQ1, cL1, cW1, rfl, CM, RM1⟩ := id S5
    refine op_alloc (cs := [_]) rfl rfl fun b15 hb15 => ?_
    refine wp_norm [_, _, _, _, _, _] rfl ?_
    refine op_storeP 5 (v := _) (vs := [_]) (c' := [_]) rfl rfl rfl rfl rfl rfl rfl rfl rfl ?_
    refine wp_norm [_, _, _, _, _, _] rfl ?_
    refine xp_seq ?_
    refine xp_region rfl ?_
    refine op_pure (pv_makeFunc (vs := []) (ws := [_, _, _, _]) rfl rfl) ?_
    refine op_pure (pv_assign (v := _) rfl) ?_
    refine xp_ret ?_
    refine res_list (vs := [_]) Tryz.results49 ⟨resV_tmp rfl rfl, trivial⟩ fun V => ?_
    exact ⟨(Ext.trans (Ext.trans (Ext.trans (Ext.trans (Ext.trans (Ext.trans E1 E2) E_k) E3) E4) E5) (ext_wl V)), b15, b2, b7, b8, rfl, _, cell_own V (i := 5) rfl rfl, S5.ext (ext_wl V), cell_own V (i := 0) rfl rfl, cell_own V (i := 3) rfl rfl, cell_own V (i := 4) rfl rfl⟩
end
end Go.Proofs.YtmpahfdiebhdbaaGreatDoor
/- Walks of package rod: what explains what was heard. Conditions: as each theorem states. -/
namespace Go.Proofs.YtmpahfdiebhdbaaGreatDoor
open Go Go.HL Go.Proofs Go.Wx Go.Rd
section
variable [Lvl]
set_option maxRecDepth 100000
theorem brk_ok (hph : Lvl.ph = true) (m : MachP) (M : MOK m) (l : List FaultP) (hf : ∀ f ∈ l, FOK m f) (a : HandP) (H : HOK m a) (b1 b2 b3 b4 : Nat) (HA OA : Option Addr) (cH cO : Nat) (h : AH) (B : BrkP h m l b1 b2 b3 b4) (RH : HandR h HA OA a) :
    FnT Tryz.prog 70 #[handV HA OA cH cO a, .pointer (some ⟨b1, 0, none⟩), .pointer (some ⟨b2, 0, none⟩), .pointer (some ⟨b3, 0, none⟩), .pointer (some ⟨b4, 0, none⟩)] h (fun v _ => v = .int .i64 (soundsB m l a : Nat)) := by
  obtain ⟨ys, c1, ⟨bs, AB, AQ, AL, AW, cB, cQ, cL, cW, rfl, CM, RM⟩, c2, c3, c4⟩ := B
  have M2 := brk_mok M l
  have H2 := brk_hok H l
  have PF := pfit_of M2
  have tr := M.travel
  have hbt := brk_bits M.levers.2 hf
  have hss := sounds_small PF a m.travel
  have h62 : soundsM (brkM m l) a m.travel ||| (brkF m l).stay < 2 ^ 60 := Nat.or_lt_two_pow hss (by omega)
  refine call_body Tryz.func70 rfl Tryz.ntmps70 rfl ?_
  refine xp_seq ?_
  refine xp_region rfl ?_
  refine op_box (v := .agg #[.slice _ _ _, .slice _ _ _]) (cs := [_, _]) rfl rfl fun b5 hb5 => ?_
  refine wp_norm [_] rfl ?_
  refine op_pure (pv_assign (v := .int .i64 _) rfl) ?_
  refine xp_seq ?_
  refine xp_dw [] rfl rfl rfl ?_
  refine dw_load (i := 0) rfl (by decide +kernel) ?_
  refine op_load (v := .func _ _ _) rfl rfl ((Ext.refl _).cell c1) ?_
  refine dw_load (i := 1) rfl (by decide +kernel) ?_
  refine op_loadPA 0 (vs := [.slice _ _ _, .slice _ _ _]) rfl rfl rfl rfl rfl ?_
  refine dw_pure (i := 2) rfl (by decide +kernel) (pv_fieldAddr rfl rfl rfl rfl _ rfl) ?_
  refine dw_load (i := 3) rfl (by decide +kernel) ?_
  refine op_load (v := .int .i64 m.travel) rfl rfl ((Ext.refl _).cell c2) ?_
  refine dw_load (i := 5) rfl (by decide +kernel) ?_
  refine op_load (v := .int .i64 ((brkF m l).stay : Nat)) rfl rfl ((Ext.refl _).cell c3) ?_
  refine dw_load (i := 7) rfl (by decide +kernel) ?_
  refine op_load (v := .int .i64 ((brkF m l).dumb : Nat)) rfl rfl ((Ext.refl _).cell c4) ?_
  refine dw_eff (i := 4) rfl (by decide +kernel) ?_
  refine op_fn  (vs := _) rfl rfl rfl (snd_ok hph (brkM m l) a (fit_of M2 H2) PF m.travel (by omega) tr.2 bs AB AQ AL AW HA OA cB cQ cL cW cH cO h (CM.ext (Ext.refl _)) (RM.ext (Ext.refl _)) (RH.ext (Ext.refl _))) ?_
  rintro _ h5 E5 rfl
  refine ⟨ext_wlm E5 _, ?_⟩
  refine dw_pure (i := 6) rfl (by decide +kernel) (pv_val (i64_or (soundsM (brkM m l) a m.travel) (brkF m l).stay (by omega) (by omega)) rfl) ?_
  refine dw_pure (i := 8) rfl (by decide +kernel) (pv_val (i64_andNot (soundsM (brkM m l) a m.travel ||| (brkF m l).stay) (brkF m l).dumb (by omega) (by omega)) rfl) ?_
  refine dw_pure (i := 9) rfl (by decide +kernel) (pv_assign (v := .int .i64 _) rfl) ?_
  refine dw_end rfl ?_
  refine xp_ret ?_
  refine res_list (vs := [_]) Tryz.results70 ⟨resV_tmp rfl rfl, trivial⟩ fun V => ?_
  exact ⟨(Ext.trans E5 (ext_wl V)), rfl⟩
theorem cell_blk {h : AH} {b : Nat} {v : Value} {e : TypeId} {f : Nat × Nat} (hb : h b = some (.cells #[v] e f)) : cellA h ⟨b, 0, none⟩ = some v := by
  simp only [cellA, hb]
  rfl
/-- What was heard of a machine, in order. -/
structure HeardOK (m : MachP) (x : HeardP) : Prop where
  h : HOK m x.hand
  s : SetOK x.sounds m.levers
def against (m : MachP) (l : List FaultP) (x : HeardP) : Bool := ((soundsB m l x.hand : Nat) : Int) != ((setM x.sounds : Nat) : Int)
def explainsB (m : MachP) (l : List FaultP) (hs : List HeardP) : Bool := !hs.any (against m l)
theorem explains1_ok (hph : Lvl.ph = true) (m : MachP) (M : MOK m) (l : List FaultP) (hf : ∀ f ∈ l, FOK m f) (x : HeardP) (X : HeardOK m x) (b : Nat) (y : Value) (HA OA UA : Option Addr) (cH cO cU : Nat) (h : AH) (c1 : cellA h ⟨b, 0, none⟩ = some y) (B : BrkV h m l y)
    (RH : HandR h HA OA x.hand) (RU : Row h 1 intC UA x.sounds) :
    FnT Tryz.prog 84 #[.agg #[.slice HA x.hand.buttons.length cH, .slice OA x.hand.on.length cO, .slice UA x.sounds.length cU], .pointer (some ⟨b, 0, none⟩)] h (fun v _ => v = .bool (against m l x)) := by
  have lv := M.levers
  have us := set_len (below := m.levers.toNat) (by rw [Int.toNat_of_nonneg (by omega)]; exact X.s)
  obtain ⟨z1, z2, z3, z4, rfl, B⟩ := B
  refine call_body Tryz.func84 rfl Tryz.ntmps84 rfl ?_
  refine xp_seq ?_
  refine xp_region rfl ?_
  refine op_box (v := .agg #[.slice _ _ _, .slice _ _ _, .slice _ _ _]) (cs := [_, _, _]) rfl rfl fun b2 hb2 => ?_
  refine wp_norm [_] rfl ?_
  refine op_pure (pv_assign (v := .bool _) rfl) ?_
  refine xp_seq ?_
  refine xp_dw [] rfl rfl rfl ?_
  refine dw_load (i := 0) rfl (by decide +kernel) ?_
  refine op_load (v := .func _ _ _) rfl rfl ((Ext.refl _).cell c1) ?_
  refine dw_pure (i := 1) rfl (by decide +kernel) (pv_fieldAddr rfl rfl rfl rfl 0 rfl) ?_
  refine dw_load (i := 2) rfl (by decide +kernel) ?_
  refine op_loadPA 0 (vs := [.slice _ _ _, .slice _ _ _]) rfl rfl rfl rfl rfl ?_
  refine dw_pure (i := 4) rfl (by decide +kernel) (pv_fieldAddr rfl rfl rfl rfl 2 rfl) ?_
  refine dw_load (i := 5) rfl (by decide +kernel) ?_
  refine op_loadP 0 (v := .slice _ _ _) rfl rfl rfl rfl ?_
  refine dw_eff (i := 3) rfl (by decide +kernel) ?_
  refine op_fn  (vs := _) rfl rfl rfl (brk_ok hph m M l hf x.hand X.h z1 z2 z3 z4 HA OA cH cO h (B.ext (Ext.refl _)) (RH.ext (Ext.refl _))) ?_
  rintro _ h5 E5 rfl
  refine ⟨ext_wlm E5 _, ?_⟩
  refine dw_last (i := 6) rfl (by decide +kernel) (by decide +kernel) ?_
  refine op_fn (caps := []) (vs := [.slice _ _ _]) rfl rfl rfl (set_ok x.sounds (fun z hz => by have := X.s.mem z hz; omega) UA cU h5 (RU.ext E5) (by omega)) ?_
  rintro _ h6 E6 rfl
  refine dw_pure (i := 7) rfl (by decide +kernel) (pv_of (v := .bool _) rfl) ?_
  refine dw_pure (i := 8) rfl (by decide +kernel) (pv_assign (v := .bool _) rfl) ?_
  refine dw_end rfl ?_
  refine xp_ret ?_
  refine res_list (vs := [_]) Tryz.results84 ⟨resV_tmp rfl rfl, trivial⟩ fun V => ?_
  exact ⟨(Ext.trans (Ext.trans E5 E6) (ext_wl V)), rfl⟩
/-- The closure that tells whether something heard speaks against some faults. -/
abbrev expY (b : Nat) : Value := .func (.func 84) #[] #[.pointer (some ⟨b, 0, none⟩)]
theorem indexFunc_ok (hph : Lvl.ph = true) (m : MachP) (M : MOK m) (l : List FaultP) (hf : ∀ f ∈ l, FOK m f) (hs : List HeardP) (X : ∀ x ∈ hs, HeardOK m x) (hl : hs.length < 2 ^ 40) (b : Nat) (y : Value) (UA : Option Addr) (cU : Nat) (cs : List (List Value)) (h : AH) (c1 : cellA h ⟨b, 0, none⟩ = some y) (B : BrkV h m l y) (R : Row h 3 id UA cs) (EL : Els h TU hs cs) :
    FnT Tryz.prog 100 #[.slice UA hs.length cU, expY b] h (fun v _ => ∃ i : Int, v = .int .i64 i ∧ decide (i ≥ 0) = hs.any (against m l)) := by
  refine call_body Tryz.func100 rfl Tryz.ntmps100 rfl ?_
  refine xp_seq ?_
  refine xp_region rfl ?_
  refine op_pure (pv_assign (v := .int .i64 _) rfl) ?_
  refine xp_seq ?_
  refine xp_seq ?_
  refine xp_region rfl ?_
  refine op_pure (pv_move (v := .slice _ _ _) rfl) ?_
  refine op_pure (pv_len rfl rfl) ?_
  refine op_pure (pv_move (v := .int .i64 _) rfl) ?_
  refine xp_block ?_
  refine xp_loopB [4, 5, 8, 9, 10, 11, 12, 13, 14, 15, 16, 17, 18] 0 (α := Nat) (fun k => [(8, .int .i64 k)]) (fun k => _) (fun k h_k => k ≤ hs.length ∧ (hs.take k).any (against m l) = false) (fun k => hs.length - k) (0) ⟨rfl, trivial⟩ (rfl) (⟨Nat.zero_le _, rfl⟩) ?_
  rintro k T1 h_k E_k J_k
  refine goes_norm [] rfl ?_
  obtain ⟨K1, K2⟩ := J_k
  refine xp_seq ?_
  refine xp_region rfl ?_
  refine op_pure (pv_of (v := .bool _) rfl) ?_
  refine xp_seq ?_
  refine xp_cond rfl (fun hk => ?_) (fun hk => ?_)
  · skip
    have hkl : k < hs.length := ltI hk
    obtain ⟨hkc, B0, O0, U0, e0, ⟨HA, cH, rfl, r1⟩, ⟨OA, cO, rfl, r2⟩, ⟨XA, cX, rfl, r3⟩⟩ := (EL.ext TU.mono E_k).at hkl
    obtain ⟨g, off, hA, hc⟩ := (R.ext E_k).at (by omega) hkc
    have hc : Cells h_k g (off + k * 3) [.slice HA hs[k].hand.buttons.length cH, .slice OA hs[k].hand.on.length cO, .slice XA hs[k].sounds.length cX] := by rw [← e0]; exact hc
    refine xp_skip ?_
    refine xp_seq ?_
    refine xp_block ?_
    refine xp_seq ?_
    refine xp_region rfl ?_
    refine op_pure (pv_move (v := .int .i64 _) rfl) ?_
    refine op_pure (pv_assign (v := .int .i64 _) rfl) ?_
    refine xp_seq ?_
    refine xp_region rfl ?_
    refine op_pure (pv_move (v := _) rfl) ?_
    refine op_pure (pv_move (v := .slice _ _ _) rfl) ?_
    refine op_pure (pv_move (v := .int .i64 _) rfl) ?_
    refine op_pure (pv_indexE rfl hA rfl rfl rfl (by omega) (by omega)) ?_
    refine op_loadA rfl rfl rfl rfl (hc) ?_
    refine op_fn  (vs := _) rfl rfl rfl (explains1_ok hph m M l hf hs[k] (X _ (List.getElem_mem hkl)) b y HA OA XA cH cO cX h_k (E_k.cell c1) (B.ext E_k) ⟨r1, r2⟩ r3) ?_
    rintro _ h5 E5 rfl
    refine xp_cond rfl (fun hp => ?_) (fun hp => ?_)
    · skip
      refine xp_seq ?_
      refine xp_region rfl ?_
      refine op_pure (pv_move (v := .int .i64 _) rfl) ?_
      refine op_pure (pv_assign (v := .int .i64 _) rfl) ?_
      refine xp_ret ?_
      refine res_list (vs := [_]) Tryz.results100 ⟨resV_tmp rfl rfl, trivial⟩ fun V => ?_
      refine ⟨(Ext.trans (Ext.trans E_k E5) (ext_wl V)), k, rfl, ?_⟩
      have : hs.any (against m l) = true := List.any_eq_true.2 ⟨_, List.getElem_mem hkl, hp⟩
      rw [this]
      exact decide_eq_true (by omega)
    · skip
      refine xp_skip ?_
      refine xp_region rfl ?_
      refine op_pure (pv_arith rfl (by omega)) ?_
      refine op_pure (pv_move (v := .int .i64 _) rfl) ?_
      refine ⟨k + 1, ⟨rfl, trivial⟩, rfl, rfl, (Ext.trans E_k E5), fun h3 E3 => ⟨hkl, by rw [List.take_succ_eq_append_getElem hkl, List.any_append, K2]; simp [hp]⟩, by first | omega | (dsimp only; omega), ?_⟩
      repeat (first | exact off_base _ _ _ | refine off_upd (by decide) ?_ | refine off_updL rfl ?_ | refine off_mix rfl ?_)
  · skip
    have hke : k = hs.length := by have := geI hk; omega
    subst hke
    rw [List.take_length] at K2
    refine xp_exit ?_
    refine xp_seq ?_
    refine xp_region rfl ?_
    refine op_pure (pv_assign (v := .int .i64 _) rfl) ?_
    refine xp_ret ?_
    refine res_list (vs := [_]) Tryz.results100 ⟨resV_tmp rfl rfl, trivial⟩ fun V => ?_
    exact ⟨(Ext.trans E_k (ext_wl V)), -1, rfl, by rw [K2]; rfl⟩
theorem containsFunc_ok (hph : Lvl.ph = true) (m : MachP) (M : MOK m) (l : List FaultP) (hf : ∀ f ∈ l, FOK m f) (hs : List HeardP) (X : ∀ x ∈ hs, HeardOK m x) (hl : hs.length < 2 ^ 40) (b : Nat) (y : Value) (UA : Option Addr) (cU : Nat) (cs : List (List Value)) (h : AH) (c1 : cellA h ⟨b, 0, none⟩ = some y) (B : BrkV h m l y) (R : Row h 3 id UA cs) (EL : Els h TU hs cs) :
    FnT Tryz.prog 83 #[.slice UA hs.length cU, expY b] h (fun v _ => v = .bool (hs.any (against m l))) := by
  refine call_body Tryz.func83 rfl Tryz.ntmps83 rfl ?_
  refine xp_seq ?_
  refine xp_region rfl ?_
  refine op_pure (pv_assign (v := .bool _) rfl) ?_
  refine xp_seq ?_
  refine xp_region rfl ?_
  refine op_pure (pv_move (v := .slice _ _ _) rfl) ?_
  refine op_pure (pv_move (v := _) rfl) ?_
  refine op_fn (caps := []) (vs := [.slice UA hs.length cU, expY b]) rfl rfl rfl (indexFunc_ok hph m M l hf hs X hl b y UA cU cs h ((Ext.refl _).cell c1) (B.ext (Ext.refl _)) (R.ext (Ext.refl _)) (EL.ext TU.mono (Ext.refl _))) ?_
  rintro _ h5 E5 ⟨i, rfl, hi⟩
  refine op_pure (pv_of (v := .bool _) rfl) ?_
  refine op_pure (pv_assign (v := .bool _) rfl) ?_
  refine xp_ret ?_
  refine res_list (vs := [_]) Tryz.results83 ⟨resV_tmp rfl rfl, trivial⟩ fun V => ?_
  exact ⟨(Ext.trans E5 (ext_wl V)), boolE hi⟩
theorem explains_ok (hph : Lvl.ph = true) (m : MachP) (M : MOK m) (l : List FaultP) (hf : ∀ f ∈ l, FOK m f) (hl : l.length < 2 ^ 20) (hs : List HeardP) (X : ∀ x ∈ hs, HeardOK m x) (hl2 : hs.length < 2 ^ 40) (AB AQ AL AW AF UA : Option Addr) (cB cQ cL cW cF cU : Nat) (cs : List (List Value)) (h : AH) (RM : MachR h AB AQ AL AW m) (RF : Row h 1 faultC AF l) (R : Row h 3 id UA cs) (EL : Els h TU hs cs) :
    FnT Tryz.prog 67 #[machV AB AQ AL AW cB cQ cL cW m, .slice AF l.length cF, .slice UA hs.length cU] h (fun v _ => v = .bool (explainsB m l hs)) := by
  refine call_body Tryz.func67 rfl Tryz.ntmps67 rfl ?_
  refine xp_seq ?_
  refine xp_region rfl ?_
  refine op_box (v := .agg #[.int .i64 _, .int .i64 _, .int .i64 _, .int .i64 _, .int .i64 _, .slice _ _ _, .slice _ _ _, .slice _ _ _, .slice _ _ _]) (cs := [_, _, _, _, _, _, _, _, _]) rfl rfl fun b3 hb3 => ?_
  refine wp_norm [_] rfl ?_
  refine op_pure (pv_assign (v := .bool _) rfl) ?_
  refine xp_seq ?_
  refine xp_region rfl ?_
  refine op_loadPA 0 (vs := [.int .i64 _, .int .i64 _, .int .i64 _, .int .i64 _, .int .i64 _, .slice _ _ _, .slice _ _ _, .slice _ _ _, .slice _ _ _]) rfl rfl rfl rfl rfl ?_
  refine op_pure (pv_move (v := .slice _ _ _) rfl) ?_
  refine op_fn (caps := []) (vs := [.agg #[.int .i64 _, .int .i64 _, .int .i64 _, .int .i64 _, .int .i64 _, .slice _ _ _, .slice _ _ _, .slice _ _ _, .slice _ _ _], .slice _ _ _]) rfl rfl rfl (broken_ok m M l hf hl AB AQ AL AW AF cB cQ cL cW cF h (RM.ext (Ext.refl _)) (RF.ext (Ext.refl _))) ?_
  rintro _ h5 E5 ⟨z1, z2, z3, z4, rfl, B⟩
  refine op_alloc (cs := [_]) rfl rfl fun b7 hb7 => ?_
  refine wp_norm [_, _] rfl ?_
  refine op_storeP 1 (v := _) (vs := [_]) (c' := [_]) rfl rfl rfl rfl rfl rfl rfl rfl rfl ?_
  refine wp_norm [_, _] rfl ?_
  refine xp_seq ?_
  refine xp_region rfl ?_
  refine op_pure (pv_move (v := .slice _ _ _) rfl) ?_
  refine op_pure (pv_makeFunc (vs := []) (ws := [_]) rfl rfl) ?_
  refine wp_pub 1 rfl rfl ?_
  intro h6 E6 hb7
  refine wp_norm [_, _] rfl ?_
  refine op_fn (caps := []) (vs := [.slice UA hs.length cU, expY b7]) rfl rfl rfl (containsFunc_ok hph m M l hf hs X hl2 b7 (brkY z1 z2 z3 z4) UA cU cs h6 (cell_blk hb7) ⟨z1, z2, z3, z4, rfl, B.ext E6⟩ (R.ext (Ext.trans E5 E6)) (EL.ext TU.mono (Ext.trans E5 E6))) ?_
  rintro _ h7 E7 rfl
  refine op_pure (pv_of (v := .bool _) rfl) ?_
  refine op_pure (pv_assign (v := .bool _) rfl) ?_
  refine xp_ret ?_
  refine res_list (vs := [_]) Tryz.results67 ⟨resV_tmp rfl rfl, trivial⟩ fun V => ?_
  exact ⟨(Ext.trans (Ext.trans (Ext.trans E5 E6) E7) (ext_wl V)), rfl⟩
end
end Go.Proofs.YtmpahfdiebhdbaaGreatDoor
/- Walks of package rod: suspects. Conditions: as each theorem states. -/
namespace Go.Proofs.YtmpahfdiebhdbaaGreatDoor
open Go Go.HL Go.Proofs Go.Wx Go.Rd
section
variable [Lvl]
set_option maxRecDepth 100000
def heard1M (m : MachP) (x : HeardP) : Int := if checkHandM m x.hand ≠ 0 then checkHandM m x.hand else checkSetM x.sounds m.levers
def checkHeardM (m : MachP) (hs : List HeardP) : Int := if chkM m ≠ 0 then chkM m else if hs.length > 5 then 6 else firstErr (heard1M m) hs
theorem checkHeard_zero {m : MachP} {hs : List HeardP} (h : checkHeardM m hs = 0) : MOK m ∧ hs.length ≤ 5 ∧ ∀ x ∈ hs, HeardOK m x := by
  unfold checkHeardM at h
  obtain ⟨a1, h⟩ := peel h (fun x => x)
  obtain ⟨a2, h⟩ := peel h (fun _ => by decide)
  have h3 := firstErr_zero h
  refine ⟨check_ok (by simpa using a1), by omega, fun x hx => ?_⟩
  have h4 := h3 x hx
  unfold heard1M at h4
  obtain ⟨a3, h4⟩ := peel h4 (fun x => x)
  exact ⟨(checkHand_ok0 (by simpa using a3)).2, checkSet_iff.1 h4⟩
/-- Lists that are not too long for any machine. -/
def HLen (hs : List HeardP) : Prop := hs.length < 2 ^ 40 ∧ ∀ x ∈ hs, x.hand.buttons.length < 2 ^ 40 ∧ x.hand.on.length < 2 ^ 40 ∧ x.sounds.length < 2 ^ 40
theorem checkHeard_ok (m : MachP) (hs : List HeardP) (HN : HLen hs) (AB AQ AL AW UA : Option Addr) (cB cQ cL cW cU : Nat) (cs : List (List Value)) (h : AH) (RM : MachR h AB AQ AL AW m) (h0 : m.weights.length < 2 ^ 40) (R : Row h 3 id UA cs) (EL : Els h TU hs cs) :
    FnT Tryz.prog 46 #[machV AB AQ AL AW cB cQ cL cW m, .slice UA hs.length cU] h (fun v _ => v = .int .i64 (checkHeardM m hs)) := by
  have hn1 := HN.1
  refine call_body Tryz.func46 rfl Tryz.ntmps46 rfl ?_
  refine xp_seq ?_
  refine xp_region rfl ?_
  refine op_box (v := .agg #[.int .i64 _, .int .i64 _, .int .i64 _, .int .i64 _, .int .i64 _, .slice _ _ _, .slice _ _ _, .slice _ _ _, .slice _ _ _]) (cs := [_, _, _, _, _, _, _, _, _]) rfl rfl fun b2 hb2 => ?_
  refine wp_norm [_] rfl ?_
  refine op_pure (pv_assign (v := .int .i64 _) rfl) ?_
  refine xp_seq ?_
  refine xp_seq ?_
  refine xp_region rfl ?_
  refine op_loadPA 0 (vs := [.int .i64 _, .int .i64 _, .int .i64 _, .int .i64 _, .int .i64 _, .slice _ _ _, .slice _ _ _, .slice _ _ _, .slice _ _ _]) rfl rfl rfl rfl rfl ?_
  refine op_fn (caps := []) (vs := [.agg #[.int .i64 _, .int .i64 _, .int .i64 _, .int .i64 _, .int .i64 _, .slice _ _ _, .slice _ _ _, .slice _ _ _, .slice _ _ _]]) rfl rfl rfl (Check_ok m AB AQ AL AW cB cQ cL cW h (RM.ext (Ext.refl _)) h0) ?_
  rintro _ h1 E1 rfl
  refine op_pure (pv_assign (v := .int .i64 _) rfl) ?_
  refine xp_seq ?_
  refine xp_region rfl ?_
  refine op_pure (pv_move (v := .int .i64 _) rfl) ?_
  refine op_pure (pv_of (v := .bool _) rfl) ?_
  refine xp_cond rfl (fun hc => ?_) (fun hc => ?_)
  · skip
    have hc' : chkM m ≠ 0 := by simpa using hc
    refine xp_seq ?_
    refine xp_region rfl ?_
    refine op_pure (pv_move (v := .int .i64 _) rfl) ?_
    refine op_pure (pv_assign (v := .int .i64 _) rfl) ?_
    refine xp_ret ?_
    refine res_list (vs := [_]) Tryz.results46 ⟨resV_tmp rfl rfl, trivial⟩ fun V => ?_
    exact ⟨(Ext.trans E1 (ext_wl V)), intE (by rw [checkHeardM, if_pos hc'])⟩
  · skip
    have hc' : chkM m = 0 := by simpa using hc
    have lv := (check_ok hc').levers
    refine xp_skip ?_
    refine xp_seq ?_
    refine xp_seq ?_
    refine xp_region rfl ?_
    refine op_pure (pv_move (v := .slice _ _ _) rfl) ?_
    refine op_pure (pv_len rfl rfl) ?_
    refine op_pure (pv_of (v := .bool _) rfl) ?_
    refine xp_cond rfl (fun h5 => ?_) (fun h5 => ?_)
    · skip
      have h5' : hs.length > 5 := by simp at h5; omega
      refine xp_seq ?_
      refine xp_region rfl ?_
      refine op_pure (pv_assign (v := .int .i64 _) rfl) ?_
      refine xp_ret ?_
      refine res_list (vs := [_]) Tryz.results46 ⟨resV_tmp rfl rfl, trivial⟩ fun V => ?_
      exact ⟨(Ext.trans E1 (ext_wl V)), intE (by rw [checkHeardM, if_neg (by simp [hc']), if_pos h5'])⟩
    · skip
      have h5' : ¬ hs.length > 5 := by simp at h5; omega
      have C : checkHeardM m hs = firstErr (heard1M m) hs := by rw [checkHeardM, if_neg (by simp [hc']), if_neg h5']
      refine xp_skip ?_
      refine xp_seq ?_
      refine xp_seq ?_
      refine xp_region rfl ?_
      refine op_pure (pv_move (v := .slice _ _ _) rfl) ?_
      refine op_pure (pv_len rfl rfl) ?_
      refine op_pure (pv_move (v := .int .i64 _) rfl) ?_
      refine xp_block ?_
      refine xp_loopB [4, 7, 8, 9, 20, 21, 22, 23, 24, 25, 26, 27, 28, 29, 30, 31, 32, 33, 34, 35, 36, 37, 38, 39] 1 (α := Nat) (fun k => [(20, .int .i64 k)]) (fun k => _) (fun k h_k => k ≤ hs.length ∧ firstErr (heard1M m) (hs.take k) = 0) (fun k => hs.length - k) (0) ⟨rfl, trivial⟩ (rfl) (⟨Nat.zero_le _, rfl⟩) ?_
      rintro k T1 h_k E_k J_k
      refine goes_norm [_] rfl ?_
      obtain ⟨K1, K2⟩ := J_k
      refine xp_seq ?_
      refine xp_region rfl ?_
      refine op_pure (pv_of (v := .bool _) rfl) ?_
      refine xp_seq ?_
      refine xp_cond rfl (fun hk => ?_) (fun hk => ?_)
      · skip
        have hkl : k < hs.length := ltI hk
        obtain ⟨l1, l2, l3⟩ := HN.2 _ (List.getElem_mem hkl)
        obtain ⟨hkc, B0, O0, U0, e0, ⟨HA, cH, rfl, r1⟩, ⟨OA, cO, rfl, r2⟩, ⟨XA, cX, rfl, r3⟩⟩ := (EL.ext TU.mono (Ext.trans E1 E_k)).at hkl
        obtain ⟨g, off, hA, hc⟩ := (R.ext (Ext.trans E1 E_k)).at (by omega) hkc
        have hc : Cells h_k g (off + k * 3) [.slice HA hs[k].hand.buttons.length cH, .slice OA hs[k].hand.on.length cO, .slice XA hs[k].sounds.length cX] := by rw [← e0]; exact hc
        refine xp_skip ?_
        refine xp_seq ?_
        refine xp_block ?_
        refine xp_seq ?_
        refine xp_region rfl ?_
        refine op_pure (pv_indexE rfl hA rfl rfl rfl (by omega) (by omega)) ?_
        refine op_loadA rfl rfl rfl rfl (hc) ?_
        refine op_alloc (cs := [_, _, _]) rfl rfl fun b7 hb7 => ?_
        refine wp_norm [_, _] rfl ?_
        refine op_storeP 1 (v := .agg #[.slice _ _ _, .slice _ _ _, .slice _ _ _]) (vs := [_, _, _]) (c' := [_, _, _]) rfl rfl rfl rfl rfl rfl rfl rfl rfl ?_
        refine wp_norm [_, _] rfl ?_
        refine xp_seq ?_
        refine xp_seq ?_
        refine xp_region rfl ?_
        refine op_loadPA 0 (vs := [.int .i64 _, .int .i64 _, .int .i64 _, .int .i64 _, .int .i64 _, .slice _ _ _, .slice _ _ _, .slice _ _ _, .slice _ _ _]) rfl rfl rfl rfl rfl ?_
        refine op_pure (pv_fieldAddr rfl rfl rfl rfl 0 rfl) ?_
        refine op_loadPA 1 (vs := [.slice _ _ _, .slice _ _ _]) rfl rfl rfl rfl rfl ?_
        refine op_fn (caps := []) (vs := [.agg #[.int .i64 _, .int .i64 _, .int .i64 _, .int .i64 _, .int .i64 _, .slice _ _ _, .slice _ _ _, .slice _ _ _, .slice _ _ _], .agg #[.slice _ _ _, .slice _ _ _]]) rfl rfl rfl (checkHand_ok m hs[k].hand AB AQ AL AW HA OA cB cQ cL cW cH cO h_k (RM.ext (Ext.trans E1 E_k)) ⟨r1, r2⟩ h0 l1 l2) ?_
        rintro _ h3 E3 rfl
        refine op_pure (pv_assign (v := .int .i64 _) rfl) ?_
        refine xp_seq ?_
        refine xp_region rfl ?_
        refine op_pure (pv_move (v := .int .i64 _) rfl) ?_
        refine op_pure (pv_of (v := .bool _) rfl) ?_
        refine xp_cond rfl (fun hw => ?_) (fun hw => ?_)
        · skip
          have hw' : checkHandM m hs[k].hand ≠ 0 := by simpa using hw
          have ew : heard1M m hs[k] = checkHandM m hs[k].hand := by rw [heard1M, if_pos hw']
          refine xp_seq ?_
          refine xp_region rfl ?_
          refine op_pure (pv_move (v := .int .i64 _) rfl) ?_
          refine op_pure (pv_assign (v := .int .i64 _) rfl) ?_
          refine xp_ret ?_
          refine res_list (vs := [_]) Tryz.results46 ⟨resV_tmp rfl rfl, trivial⟩ fun V => ?_
          refine ⟨(Ext.trans (Ext.trans (Ext.trans E1 E_k) E3) (ext_wl V)), intE ?_⟩
          rw [C, firstErr_stop hkl K2 (by rw [ew]; exact hw'), ew]
        · skip
          have hw' : checkHandM m hs[k].hand = 0 := by simpa using hw
          have ew : heard1M m hs[k] = checkSetM hs[k].sounds m.levers := by rw [heard1M, if_neg (by simp [hw'])]
          refine xp_skip ?_
          refine xp_seq ?_
          refine xp_region rfl ?_
          refine op_pure (pv_fieldAddr rfl rfl rfl rfl 2 rfl) ?_
          refine op_loadP 1 (v := .slice _ _ _) rfl rfl rfl rfl ?_
          refine op_pure (pv_fieldAddr rfl rfl rfl rfl 1 rfl) ?_
          refine op_loadP 0 (v := .int .i64 _) rfl rfl rfl rfl ?_
          refine op_fn (caps := []) (vs := [.slice _ _ _, .int .i64 _]) rfl rfl rfl (checkSet_ok hs[k].sounds m.levers (by omega) XA cX h3 (r3.ext E3) l3) ?_
          rintro _ h4 E4 rfl
          refine op_pure (pv_assign (v := .int .i64 _) rfl) ?_
          refine xp_seq ?_
          refine xp_region rfl ?_
          refine op_pure (pv_move (v := .int .i64 _) rfl) ?_
          refine op_pure (pv_of (v := .bool _) rfl) ?_
          refine xp_cond rfl (fun hz => ?_) (fun hz => ?_)
          · skip
            have hz' : checkSetM hs[k].sounds m.levers ≠ 0 := by simpa using hz
            refine xp_seq ?_
            refine xp_region rfl ?_
            refine op_pure (pv_move (v := .int .i64 _) rfl) ?_
            refine op_pure (pv_assign (v := .int .i64 _) rfl) ?_
            refine xp_ret ?_
            refine res_list (vs := [_]) Tryz.results46 ⟨resV_tmp rfl rfl, trivial⟩ fun V => ?_
            refine ⟨(Ext.trans (Ext.trans (Ext.trans (Ext.trans E1 E_k) E3) E4) (ext_wl V)), intE ?_⟩
            rw [C, firstErr_stop hkl K2 (by rw [ew]; exact hz'), ew]
          · skip
            have hz' : checkSetM hs[k].sounds m.levers = 0 := by simpa using hz
            refine xp_skip ?_
            refine xp_region rfl ?_
            refine op_pure (pv_arith rfl (by omega)) ?_
            refine op_pure (pv_move (v := .int .i64 _) rfl) ?_
            refine ⟨k + 1, ⟨rfl, trivial⟩, rfl, rfl, (Ext.trans (Ext.trans E_k E3) E4), fun h3 E3 => ⟨hkl, firstErr_go hkl K2 (by rw [ew, hz'])⟩, by first | omega | (dsimp only; omega), ?_⟩
            repeat (first | exact off_base _ _ _ | refine off_upd (by decide) ?_ | refine off_updL rfl ?_ | refine off_mix rfl ?_)
      · skip
        have hke : k = hs.length := by have := geI hk; omega
        subst hke
        rw [List.take_length] at K2
        refine xp_exit ?_
        refine xp_seq ?_
        refine xp_region rfl ?_
        refine op_pure (pv_assign (v := .int .i64 _) rfl) ?_
        refine xp_ret ?_
        refine res_list (vs := [_]) Tryz.results46 ⟨resV_tmp rfl rfl, trivial⟩ fun V => ?_
        exact ⟨(Ext.trans (Ext.trans E1 E_k) (ext_wl V)), intE (by rw [C, K2])⟩
/-- The suspects among the first k faults. -/
def suspN (m : MachP) (hs : List HeardP) : Nat → List Int
  | 0 => if explainsB m [] hs then [-1] else []
  | k + 1 => match (faultsM m)[k]? with
    | some f => if explainsB m [f] hs then suspN m hs k ++ [(k : Int)] else suspN m hs k
    | none => suspN m hs k
def suspectsM (m : MachP) (hs : List HeardP) : List Int := suspN m hs (faultsM m).length
theorem suspN_len (m : MachP) (hs : List HeardP) : ∀ k, (suspN m hs k).length ≤ k + 1
  | 0 => by unfold suspN; split <;> simp
  | k + 1 => by
    have := suspN_len m hs k
    unfold suspN
    split
    · split
      · rw [List.length_append]; simp; omega
      · omega
    · omega
theorem fsN_mem {c : Nat → FaultP} {k : Nat} {f : FaultP} (h : f ∈ fsN c k) : ∃ i, i < k ∧ f = c i := by
  unfold fsN at h
  obtain ⟨i, hi, e⟩ := List.mem_map.1 h
  exact ⟨i, List.mem_range.1 hi, e.symm⟩
/-- All faults of a machine are faults of it. -/
theorem faults_fok {m : MachP} (M : MOK m) {f : FaultP} (h : f ∈ faultsM m) : FOK m f := by
  have := M.levers
  unfold faultsM fs3 fs2 fs1 at h
  simp only [List.mem_append] at h
  rcases h with ((h | h) | h) | h <;> obtain ⟨i, hi, rfl⟩ := fsN_mem h
  · show (i : Int) < m.levers; omega
  · show (i : Int) < m.levers; omega
  · exact hi
  · exact hi
theorem fill_fault (f : FaultP) : fillL (fun i => some (i * 1, 1)) ((List.range (1 * 1)).map fun i => ([Value.nilIface] : List Value)[i % ([Value.nilIface] : List Value).length]!) [(0, faultV f)] = some [faultV f] := by cases f <;> rfl
theorem row_f1 {h : AH} {b : Nat} {f : FaultP} {v : Value} {e : TypeId} {q : Nat × Nat} (hv : v = faultV f) (hb : h b = some (.cells #[v] e q)) : Row h 1 faultC (some ⟨b, 0, none⟩) [f] :=
  ⟨fun _ _ => rfl, fun _ => ⟨b, 0, rfl, cellsB (cs := [faultV f]) (by rw [← hv]; exact hb)⟩⟩
theorem suspects_ok (hph : Lvl.ph = true) (m : MachP) (M : MOK m) (hs : List HeardP) (X : ∀ x ∈ hs, HeardOK m x) (hl2 : hs.length < 2 ^ 40) (AB AQ AL AW UA : Option Addr) (cB cQ cL cW cU : Nat) (cs : List (List Value)) (h : AH) (RM : MachR h AB AQ AL AW m) (R : Row h 3 id UA cs) (EL : Els h TU hs cs) :
    FnT Tryz.prog 47 #[machV AB AQ AL AW cB cQ cL cW m, .slice UA hs.length cU] h (fun v h' => SlR h' 1 intC (suspectsM m hs) v) := by
  have lv := M.levers
  have pl := M.pl
  have ll := M.ll
  have fl := faults_len m
  refine call_body Tryz.func47 rfl Tryz.ntmps47 rfl ?_
  refine xp_seq ?_
  refine xp_region rfl ?_
  refine op_box (v := .agg #[.int .i64 _, .int .i64 _, .int .i64 _, .int .i64 _, .int .i64 _, .slice _ _ _, .slice _ _ _, .slice _ _ _, .slice _ _ _]) (cs := [_, _, _, _, _, _, _, _, _]) rfl rfl fun b2 hb2 => ?_
  refine wp_norm [_] rfl ?_
  refine op_pure (pv_assign (v := .slice _ _ _) rfl) ?_
  refine xp_seq ?_
  refine xp_region rfl ?_
  refine op_pure (pv_assign (v := .slice _ _ _) rfl) ?_
  refine goes_more ?_
  refine goes_norm [_, _] rfl ?_
  refine xp_cutB [5, 8, 9, 10, 11, 12, 13] 2 (α := Acc) (fun a => [(5, .slice a.A a.n a.c)]) (fun a L => L.set 1 (a.p)) (fun a h_a => AccR 3 1 ((suspN m hs 0).flatMap intC) a) ?_ ?_
  · skip
    refine xp_seq ?_
    refine xp_region rfl ?_
    refine op_loadPA 0 (vs := [.int .i64 _, .int .i64 _, .int .i64 _, .int .i64 _, .int .i64 _, .slice _ _ _, .slice _ _ _, .slice _ _ _, .slice _ _ _]) rfl rfl rfl rfl rfl ?_
    refine op_pure (pv_move (v := .slice _ _ _) rfl) ?_
    refine op_fn (caps := []) (vs := [.agg #[.int .i64 _, .int .i64 _, .int .i64 _, .int .i64 _, .int .i64 _, .slice _ _ _, .slice _ _ _, .slice _ _ _, .slice _ _ _], .slice _ _ _, .slice _ _ _]) rfl rfl rfl (explains_ok hph m M [] (fun f hf => absurd hf List.not_mem_nil) (by decide) hs X hl2 AB AQ AL AW none UA cB cQ cL cW 0 cU cs h (RM.ext (Ext.refl _)) ⟨fun _ hx => absurd hx List.not_mem_nil, Rd.nil _ _⟩ (R.ext (Ext.refl _)) (EL.ext TU.mono (Ext.refl _))) ?_
    rintro _ h1 E1 rfl
    refine xp_cond rfl (fun hx => ?_) (fun hx => ?_)
    · skip
      refine xp_region rfl ?_
      refine op_pure (pv_move (v := .slice _ _ _) rfl) ?_
      refine op_buildSlice (zc := [_]) (vs := [(0, .int .i64 _)]) (cs := [_]) rfl rfl rfl rfl rfl rfl rfl fun b12 hb12 => ?_
      refine wp_norm [_, _, _] rfl ?_
      have ac0 : AccR 3 1 [] acc0 := accR0
      refine op_appendR 1 ac0 rfl rfl rfl (fun V => rdP V (i := 2) rfl) rfl rfl rfl rfl rfl rfl rfl rfl rfl (by omega) rfl (by simp) fun a2 h2a E2a ha2 => ?_
      refine wp_norm [_, _, _] rfl ?_
      refine op_pure (pv_assign (v := .slice _ _ _) rfl) ?_
      refine ⟨a2, ⟨rfl, trivial⟩, rfl, rfl, (Ext.trans E1 E2a), fun h3 E3 => by rw [suspN, if_pos hx]; exact ha2, ?_⟩
      repeat (first | exact off_refl _ _ | exact off_base _ _ _ | refine off_upd (by decide) ?_ | refine off_updL rfl ?_ | refine off_mix rfl ?_)
    · skip
      refine xp_skip ?_
      refine ⟨acc0, ⟨rfl, trivial⟩, rfl, rfl, E1, fun h3 E3 => by rw [suspN, if_neg (by simp [hx])]; exact accR0, ?_⟩
      repeat (first | exact off_refl _ _ | exact off_base _ _ _ | refine off_upd (by decide) ?_ | refine off_updL rfl ?_ | refine off_mix rfl ?_)
  · rintro a T1 h_a E_a J_a
    refine goes_norm [_, _] rfl ?_
    refine xp_seq ?_
    refine xp_seq ?_
    refine xp_region rfl ?_
    refine op_loadPA 0 (vs := [.int .i64 _, .int .i64 _, .int .i64 _, .int .i64 _, .int .i64 _, .slice _ _ _, .slice _ _ _, .slice _ _ _, .slice _ _ _]) rfl rfl rfl rfl rfl ?_
    refine op_fn (caps := []) (vs := [.agg #[.int .i64 _, .int .i64 _, .int .i64 _, .int .i64 _, .int .i64 _, .slice _ _ _, .slice _ _ _, .slice _ _ _, .slice _ _ _]]) rfl rfl rfl (faults_ok m (by omega) (by omega) (by omega) AB AQ AL AW cB cQ cL cW h_a) ?_
    rintro _ h2 E2 ⟨FA, cF, rfl, RF⟩
    have hfok : ∀ f ∈ faultsM m, FOK m f := fun f hf => faults_fok M hf
    obtain ⟨fs, hfs⟩ : ∃ fs, fs = faultsM m := ⟨_, rfl⟩
    have hS : suspectsM m hs = suspN m hs fs.length := by rw [suspectsM, hfs]
    rw [hS]
    rw [← hfs] at RF fl hfok ⊢
    refine op_pure (pv_len rfl rfl) ?_
    refine op_pure (pv_move (v := .int .i64 _) rfl) ?_
    refine xp_block ?_
    refine xp_loopL [5, 6, 7, 17, 18, 19, 20, 21, 22, 23, 24, 25, 26, 27, 28, 29, 30, 31] 2 (α := Nat × Acc) (fun ⟨k, a⟩ => [(5, .slice a.A a.n a.c), (17, .int .i64 k)]) (fun ⟨k, a⟩ L => L.set 1 (a.p)) (fun ⟨k, a⟩ h_k => k ≤ fs.length ∧ AccR 3 1 ((suspN m hs k).flatMap intC) a) (fun ⟨k, a⟩ => fs.length - k) ((0, a)) ⟨rfl, rfl, trivial⟩ (rfl) (⟨Nat.zero_le _, J_a⟩) ?_
    rintro ⟨k, a⟩ T3 h_k E_k J_k
    refine goes_norm [_, _] rfl ?_
    obtain ⟨K1, K2⟩ := J_k
    refine xp_seq ?_
    refine xp_region rfl ?_
    refine op_pure (pv_of (v := .bool _) rfl) ?_
    refine xp_seq ?_
    refine xp_cond rfl (fun hk => ?_) (fun hk => ?_)
    · skip
      have hkl : k < fs.length := ltI hk
      obtain ⟨g, off, hA, hc⟩ := (RF.ext E_k).at (by omega) hkl
      have hfk := hfok _ (List.getElem_mem hkl)
      have hgk : (faultsM m)[k]? = some fs[k] := by rw [← hfs]; exact List.getElem?_eq_getElem hkl
      refine xp_skip ?_
      refine xp_seq ?_
      refine xp_block ?_
      refine xp_seq ?_
      refine xp_region rfl ?_
      refine op_pure (pv_move (v := .int .i64 _) rfl) ?_
      refine op_pure (pv_indexE rfl hA rfl rfl rfl (by omega) (by omega)) ?_
      refine op_load (v := _) rfl rfl ((hc) 0 _ rfl) ?_
      refine op_pure (pv_assign (v := .int .i64 _) rfl) ?_
      refine op_pure (pv_assign (v := _) rfl) ?_
      refine xp_seq ?_
      refine xp_region rfl ?_
      refine op_loadPA 0 (vs := [.int .i64 _, .int .i64 _, .int .i64 _, .int .i64 _, .int .i64 _, .slice _ _ _, .slice _ _ _, .slice _ _ _, .slice _ _ _]) rfl rfl rfl rfl rfl ?_
      refine op_pure (pv_move (v := _) rfl) ?_
      refine op_buildSlice (m := 1) (zc := [.nilIface]) (vs := [(0, faultV fs[k])]) (cs := [faultV fs[k]]) rfl rfl rfl rfl rfl rfl (fill_fault _) fun b24 hb24 => ?_
      refine wp_norm [_, _, _] rfl ?_
      refine op_pure (pv_move (v := .slice _ _ _) rfl) ?_
      refine wp_pub 2 rfl rfl ?_
      intro h3 E3 hb24
      refine wp_norm [_, _, _] rfl ?_
      refine op_fn (caps := []) (vs := [.agg #[.int .i64 _, .int .i64 _, .int .i64 _, .int .i64 _, .int .i64 _, .slice _ _ _, .slice _ _ _, .slice _ _ _, .slice _ _ _], .slice _ _ _, .slice _ _ _]) rfl rfl rfl (explains_ok hph m M [fs[k]] (fun f hf => by simp at hf; subst hf; exact hfk) (by show 1 < 2 ^ 20; decide) hs X hl2 AB AQ AL AW (some ⟨b24, 0, none⟩) UA cB cQ cL cW 1 cU cs h3 (RM.ext (Ext.trans (Ext.trans (Ext.trans E_a E2) E_k) E3)) (row_f1 rfl hb24) (R.ext (Ext.trans (Ext.trans (Ext.trans E_a E2) E_k) E3)) (EL.ext TU.mono (Ext.trans (Ext.trans (Ext.trans E_a E2) E_k) E3))) ?_
      rintro _ h4 E4 rfl
      refine xp_cond rfl (fun hx => ?_) (fun hx => ?_)
      · skip
        refine xp_region rfl ?_
        refine op_pure (pv_move (v := .slice _ _ _) rfl) ?_
        refine op_pure (pv_move (v := .int .i64 _) rfl) ?_
        refine op_buildSlice (zc := [_]) (vs := [(0, .int .i64 _)]) (cs := [_]) rfl rfl rfl rfl rfl rfl rfl fun b29 hb29 => ?_
        refine wp_norm [_, _, _, _] rfl ?_
        refine op_appendR 1 K2 rfl rfl rfl (fun V => rdP V (i := 3) rfl) rfl rfl rfl rfl rfl rfl rfl rfl rfl (by omega) rfl (by rw [flat_len (m := 1) (fun _ _ => rfl)]; have := suspN_len m hs k; simp; omega) fun a2 h4a E4a ha2 => ?_
        refine wp_norm [_, _, _, _] rfl ?_
        refine op_pure (pv_assign (v := .slice _ _ _) rfl) ?_
        refine xp_region rfl ?_
        refine op_pure (pv_arith rfl (by omega)) ?_
        refine op_pure (pv_move (v := .int .i64 _) rfl) ?_
        refine ⟨(k + 1, a2), ⟨rfl, rfl, trivial⟩, rfl, rfl, (Ext.trans (Ext.trans (Ext.trans E_k E3) E4) E4a), fun h3 E3 => ⟨hkl, by rw [suspN, hgk]; simp only; rw [if_pos hx, List.flatMap_append]; exact ha2⟩, by first | omega | (dsimp only; omega), ?_⟩
        repeat (first | exact off_base _ _ _ | refine off_upd (by decide) ?_ | refine off_updL rfl ?_ | refine off_mix rfl ?_)
      · skip
        refine xp_skip ?_
        refine xp_region rfl ?_
        refine op_pure (pv_arith rfl (by omega)) ?_
        refine op_pure (pv_move (v := .int .i64 _) rfl) ?_
        refine ⟨(k + 1, a), ⟨rfl, rfl, trivial⟩, rfl, rfl, (Ext.trans (Ext.trans E_k E3) E4), fun h3 E3 => ⟨hkl, by rw [suspN, hgk]; simp only; rw [if_neg (by simp [hx])]; exact K2⟩, by first | omega | (dsimp only; omega), ?_⟩
        repeat (first | exact off_base _ _ _ | refine off_upd (by decide) ?_ | refine off_updL rfl ?_ | refine off_mix rfl ?_)
    · skip
      have hke : k = fs.length := by have := geI hk; omega
      subst hke
      refine xp_exit ?_
      refine xp_seq ?_
      refine xp_region rfl ?_
      refine op_pure (pv_move (v := .slice _ _ _) rfl) ?_
      refine op_pure (pv_assign (v := .slice _ _ _) rfl) ?_
      refine xp_ret ?_
      refine res_list (vs := [_]) Tryz.results47 ⟨resV_tmp rfl rfl, trivial⟩ fun V => ?_
      exact ⟨(Ext.trans (Ext.trans (Ext.trans E_a E2) E_k) (ext_wl V)), AccP.row (i := 1) K2 (by omega) (fun _ _ => rfl) V rfl⟩
def suspE (m : MachP) (hs : List HeardP) : Int := if checkHeardM m hs ≠ 0 then checkHeardM m hs else if (suspectsM m hs).length = 0 then 11 else 0
def suspL (m : MachP) (hs : List HeardP) : List Int := if suspE m hs = 0 then suspectsM m hs else []
theorem Suspects_ok (hph : Lvl.ph = true) (m : MachP) (hs : List HeardP) (HN : HLen hs) (AB AQ AL AW UA : Option Addr) (cB cQ cL cW cU : Nat) (cs : List (List Value)) (h : AH) (RM : MachR h AB AQ AL AW m) (h0 : m.weights.length < 2 ^ 40) (R : Row h 3 id UA cs) (EL : Els h TU hs cs) :
    FnT Tryz.prog 20 #[machV AB AQ AL AW cB cQ cL cW m, .slice UA hs.length cU] h (fun v h' => ∃ L, v = .tuple #[L, .int .i64 (suspE m hs)] ∧ SlR h' 1 intC (suspL m hs) L) := by
  refine call_body Tryz.func20 rfl Tryz.ntmps20 rfl ?_
  refine xp_seq ?_
  refine xp_region rfl ?_
  refine op_box (v := .agg #[.int .i64 _, .int .i64 _, .int .i64 _, .int .i64 _, .int .i64 _, .slice _ _ _, .slice _ _ _, .slice _ _ _, .slice _ _ _]) (cs := [_, _, _, _, _, _, _, _, _]) rfl rfl fun b2 hb2 => ?_
  refine wp_norm [_] rfl ?_
  refine op_pure (pv_assign (v := .slice _ _ _) rfl) ?_
  refine op_pure (pv_assign (v := .int .i64 _) rfl) ?_
  refine xp_seq ?_
  refine xp_seq ?_
  refine xp_region rfl ?_
  refine op_loadPA 0 (vs := [.int .i64 _, .int .i64 _, .int .i64 _, .int .i64 _, .int .i64 _, .slice _ _ _, .slice _ _ _, .slice _ _ _, .slice _ _ _]) rfl rfl rfl rfl rfl ?_
  refine op_pure (pv_move (v := .slice _ _ _) rfl) ?_
  refine op_fn (caps := []) (vs := [.agg #[.int .i64 _, .int .i64 _, .int .i64 _, .int .i64 _, .int .i64 _, .slice _ _ _, .slice _ _ _, .slice _ _ _, .slice _ _ _], .slice _ _ _]) rfl rfl rfl (checkHeard_ok m hs HN AB AQ AL AW UA cB cQ cL cW cU cs h (RM.ext (Ext.refl _)) h0 (R.ext (Ext.refl _)) (EL.ext TU.mono (Ext.refl _))) ?_
  rintro _ h3 E3 rfl
  refine op_pure (pv_assign (v := .int .i64 _) rfl) ?_
  refine xp_seq ?_
  refine xp_region rfl ?_
  refine op_pure (pv_move (v := .int .i64 _) rfl) ?_
  refine op_pure (pv_of (v := .bool _) rfl) ?_
  refine xp_cond rfl (fun hc => ?_) (fun hc => ?_)
  · skip
    have hc' : checkHeardM m hs ≠ 0 := by simpa using hc
    have e : suspE m hs = checkHeardM m hs := by rw [suspE, if_pos hc']
    refine xp_seq ?_
    refine xp_region rfl ?_
    refine op_pure (pv_move (v := .int .i64 _) rfl) ?_
    refine op_pure (pv_assign (v := .slice _ _ _) rfl) ?_
    refine op_pure (pv_assign (v := .int .i64 _) rfl) ?_
    refine xp_ret ?_
    refine res_list (vs := [_, _]) Tryz.results20 ⟨resV_tmp rfl rfl, resV_tmp rfl rfl, trivial⟩ fun V => ?_
    refine ⟨(Ext.trans E3 (ext_wl V)), .slice none 0 0, by rw [e]; rfl, ?_⟩
    rw [suspL, e, if_neg hc']
    exact ⟨none, 0, rfl, fun _ _ => rfl, Rd.nil _ _⟩
  · skip
    have hc' : checkHeardM m hs = 0 := by simpa using hc
    obtain ⟨M, hl5, X⟩ := checkHeard_zero hc'
    refine xp_skip ?_
    refine xp_seq ?_
    refine xp_region rfl ?_
    refine op_loadPA 0 (vs := [.int .i64 _, .int .i64 _, .int .i64 _, .int .i64 _, .int .i64 _, .slice _ _ _, .slice _ _ _, .slice _ _ _, .slice _ _ _]) rfl rfl rfl rfl rfl ?_
    refine op_pure (pv_move (v := .slice _ _ _) rfl) ?_
    refine op_fn (caps := []) (vs := [.agg #[.int .i64 _, .int .i64 _, .int .i64 _, .int .i64 _, .int .i64 _, .slice _ _ _, .slice _ _ _, .slice _ _ _, .slice _ _ _], .slice _ _ _]) rfl rfl rfl (suspects_ok hph m M hs X HN.1 AB AQ AL AW UA cB cQ cL cW cU cs h3 (RM.ext E3) (R.ext E3) (EL.ext TU.mono E3)) ?_
    rintro _ h4 E4 ⟨SA, cS, rfl, RS⟩
    refine op_pure (pv_assign (v := .slice _ _ _) rfl) ?_
    refine xp_seq ?_
    refine xp_seq ?_
    refine xp_region rfl ?_
    refine op_pure (pv_move (v := .slice _ _ _) rfl) ?_
    refine op_pure (pv_len rfl rfl) ?_
    refine op_pure (pv_of (v := .bool _) rfl) ?_
    refine xp_cond rfl (fun hz => ?_) (fun hz => ?_)
    · skip
      have hz' : (suspectsM m hs).length = 0 := by simpa using hz
      have e : suspE m hs = 11 := by rw [suspE, if_neg (by simp [hc']), if_pos hz']
      refine xp_seq ?_
      refine xp_region rfl ?_
      refine op_pure (pv_assign (v := .slice _ _ _) rfl) ?_
      refine op_pure (pv_assign (v := .int .i64 _) rfl) ?_
      refine xp_ret ?_
      refine res_list (vs := [_, _]) Tryz.results20 ⟨resV_tmp rfl rfl, resV_tmp rfl rfl, trivial⟩ fun V => ?_
      refine ⟨(Ext.trans (Ext.trans E3 E4) (ext_wl V)), .slice none 0 0, by rw [e]; rfl, ?_⟩
      rw [suspL, e, if_neg (by decide)]
      exact ⟨none, 0, rfl, fun _ _ => rfl, Rd.nil _ _⟩
    · skip
      have hz' : ¬ (suspectsM m hs).length = 0 := by simpa using hz
      have e : suspE m hs = 0 := by rw [suspE, if_neg (by simp [hc']), if_neg hz']
      refine xp_skip ?_
      refine xp_seq ?_
      refine xp_region rfl ?_
      refine op_pure (pv_move (v := .slice _ _ _) rfl) ?_
      refine op_pure (pv_assign (v := .slice _ _ _) rfl) ?_
      refine op_pure (pv_assign (v := .int .i64 _) rfl) ?_
      refine xp_ret ?_
      refine res_list (vs := [_, _]) Tryz.results20 ⟨resV_tmp rfl rfl, resV_tmp rfl rfl, trivial⟩ fun V => ?_
      refine ⟨(Ext.trans (Ext.trans E3 E4) (ext_wl V)), .slice SA (suspectsM m hs).length cS, by rw [e]; rfl, ?_⟩
      rw [suspL, e, if_pos rfl]
      exact ⟨SA, cS, rfl, RS.ext (ext_wl V)⟩
end
end Go.Proofs.YtmpahfdiebhdbaaGreatDoor
