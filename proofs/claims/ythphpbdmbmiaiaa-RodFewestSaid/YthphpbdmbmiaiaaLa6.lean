/- An own logic over the model, its walks and its plain laws, joined of parts R39 Rt R40 R41 R42 R43 R44 R45 R46 R47 R48 R49 R50 R51 R52. Conditions: as each theorem states. -/
import Derived.Test.YthphpbdmbmiaiaaLa5
import Derived.Test.YthphpbdmbmiaiaaLa3
set_option linter.all false
/- Walks of the reference: a machine without a pin, without a link; all faults. Conditions: as each theorem states. -/
namespace Go.Proofs.Ythphpbdmbmiaiaa
open Go Go.HL Go.Proofs Go.Wx Go.Rd
section
variable [Lvl]
set_option maxRecDepth 100000
theorem flat_take {α : Type} (enc : α → List Value) (l : List α) (k : Nat) : (l.take k).flatMap enc = (l.flatMap enc).take ((l.take k).flatMap enc).length := by
  have e : l.flatMap enc = (l.take k).flatMap enc ++ (l.drop k).flatMap enc := by rw [← List.flatMap_append, List.take_append_drop]
  rw [e, List.take_left']
  rfl
theorem flat_drop {α : Type} (enc : α → List Value) (l : List α) (k : Nat) : (l.drop k).flatMap enc = (l.flatMap enc).drop ((l.take k).flatMap enc).length := by
  have e : l.flatMap enc = (l.take k).flatMap enc ++ (l.drop k).flatMap enc := by rw [← List.flatMap_append, List.take_append_drop]
  rw [e, List.drop_left']
  rfl
theorem row_take {α : Type} {enc : α → List Value} {h : AH} {A : Option Addr} {l : List α} {m : Nat} (R : Row h m enc A l) (k : Nat) : Row h m enc A (l.take k) :=
  ⟨fun x hx => R.1 x (take_mem hx), by rw [flat_take]; exact rd_take R.2 _⟩
theorem row_drop {α : Type} {enc : α → List Value} {h : AH} {A : Option Addr} {l : List α} {m k cap : Nat} (R : Row h m enc A l) (hk : k ≤ l.length) (hc : l.length ≤ cap) : Row h m enc (if cap = k then A else A.map (·.add (k * m))) (l.drop k) := by
  refine ⟨fun x hx => R.1 x (List.mem_of_mem_drop hx), ?_⟩
  split
  · rw [List.drop_of_length_le (by omega)]
    exact Rd.nil _ _
  · have e : ((l.take k).flatMap enc).length = k * m := by
      rw [flat_len (m := m) (fun x hx => R.1 x (take_mem hx)), List.length_take, Nat.min_eq_left hk]
    have := rd_drop R.2 (k * m)
    rw [flat_drop, e]
    exact this
theorem row_acc {α : Type} {e : TypeId} {m : Nat} {enc : α → List Value} {l : List α} {a : Acc} {L : Pv} {h : AH} {i : Nat} (r : AccR e m (l.flatMap enc) a) (hm : 0 < m) (hl : ∀ x ∈ l, (enc x).length = m) (V : Valid h L) (hi : L[i]? = some a.p) : Row (wl h L) m enc a.A l := by
  obtain ⟨A', c', e, r⟩ := AccP.row r hm hl V hi
  injection e with e1 e2 e3
  rw [e1]
  exact r
set_option maxHeartbeats 2000000 in
theorem WithoutPinR_ok (m : MachP) (i : Nat) (hi : i < m.pins.length) (hl : m.pins.length < 2 ^ 20) (AB AQ AL AW : Option Addr) (cB cQ cL cW : Nat) (hc : m.pins.length ≤ cQ) (h : AH) (R : Row h 3 pinC AQ m.pins) :
    FnT Try.prog 64 #[machV AB AQ AL AW cB cQ cL cW m, .int .i64 i] h (fun v h' => ∃ A c, v = machV AB A AL AW cB c cL cW { m with pins := m.pins.eraseIdx i } ∧ Row h' 3 pinC A (m.pins.eraseIdx i) ∧ (m.pins.eraseIdx i).length ≤ c) := by
  have el : (m.pins.take i).length = i := by rw [List.length_take]; omega
  have ee : m.pins.eraseIdx i = m.pins.take i ++ m.pins.drop (i + 1) := List.eraseIdx_eq_take_drop_succ ..
  have ed : (m.pins.drop (i + 1)).length = m.pins.length - (i + 1) := List.length_drop ..
  refine call_body Try.func64 rfl Try.ntmps64 rfl ?_
  refine xp_seq ?_
  refine xp_region rfl ?_
  refine op_box (v := .agg #[.int .i64 _, .int .i64 _, .int .i64 _, .int .i64 _, .int .i64 _, .slice _ _ _, .slice _ _ _, .slice _ _ _, .slice _ _ _]) (cs := [_, _, _, _, _, _, _, _, _]) rfl rfl fun b2 hb2 => ?_
  refine wp_norm [_] rfl ?_
  refine op_alloc (cs := [_, _, _, _, _, _, _, _, _]) rfl rfl fun b4 hb4 => ?_
  refine wp_norm [_, _] rfl ?_
  refine xp_seq ?_
  refine xp_dw [false, false, true] rfl rfl rfl ?_
  refine dw_pure (i := 1) rfl (by decide +kernel) (pv_fieldAddr rfl rfl rfl rfl 6 rfl) ?_
  refine dw_load (i := 2) rfl (by decide +kernel) ?_
  refine op_loadP 0 (v := .slice _ _ _) rfl rfl rfl rfl ?_
  refine dw_pure (i := 3) rfl (by decide +kernel) (pv_move (v := .int .i64 _) rfl) ?_
  refine dw_pure (i := 4) rfl (by decide +kernel) (pv_sliceHi i rfl rfl rfl rfl rfl (by omega)) ?_
  have R1 := row_take R i
  have R2 := row_drop (k := i + 1) (cap := cQ) R hi hc
  refine dw_pure (i := 6) rfl (by decide +kernel) (pv_fieldAddr rfl rfl rfl rfl 6 rfl) ?_
  refine dw_load (i := 7) rfl (by decide +kernel) ?_
  refine op_loadP 0 (v := .slice _ _ _) rfl rfl rfl rfl ?_
  refine dw_pure (i := 8) rfl (by decide +kernel) (pv_move (v := .int .i64 _) rfl) ?_
  refine dw_pure (i := 9) rfl (by decide +kernel) (pv_arith rfl (by omega)) ?_
  refine dw_pure (i := 10) rfl (by decide +kernel) (pv_sliceLo (i + 1) rfl rfl (by omega) rfl rfl (by omega) hc) ?_
  refine dw_eff (i := 0) rfl (by decide +kernel) ?_
  refine op_buildSlice (zc := [_, _, _]) (vs := []) (cs := []) rfl rfl rfl rfl rfl rfl rfl fun b5 hb5 => ?_
  refine ⟨ext_newM hb5 _, ?_⟩
  refine dw_norm [_, _, _] rfl ?_
  refine dw_eff (i := 5) rfl (by decide +kernel) ?_
  refine op_appendR 2 accR_new rfl rfl rfl (fun V => R1.2.ext (Ext.trans (Ext.refl _) (ext_wl V))) ((flat_len R1.1).trans (congrArg (· * 3) el)) (flat_plain pinP (m.pins.take i)) rfl rfl rfl rfl rfl rfl rfl (by omega) rfl (by have e1 := flat_len R1.1; rw [List.length_nil]; omega) fun a1 h1a E1a ha1 => ?_
  refine ⟨ext_wlm E1a _, ?_⟩
  refine dw_norm [_, _, _] rfl ?_
  refine dw_last (i := 11) rfl (by decide +kernel) (by decide +kernel) ?_
  refine op_appendR 2 ha1 rfl rfl rfl (fun V => R2.2.ext (Ext.trans E1a (ext_wl V))) ((flat_len R2.1).trans (congrArg (· * 3) ed)) (flat_plain pinP (m.pins.drop (i + 1))) rfl rfl rfl rfl rfl rfl rfl (by omega) rfl (by have e1 := flat_len R1.1; have e2 := flat_len R2.1; rw [List.nil_append]; omega) fun a2 h2a E2a ha2 => ?_
  refine dw_norm [_, _, _] rfl ?_
  refine dw_pure (i := 12) rfl (by decide +kernel) (pv_fieldAddr rfl rfl rfl rfl 6 rfl) ?_
  refine dw_last (i := 13) rfl (by decide +kernel) (by decide +kernel) ?_
  refine op_storeP 0 (v := .slice _ _ _) (vs := [_]) (c' := [_, _, _, _, _, _, _, _, _]) rfl rfl rfl rfl rfl rfl rfl rfl rfl ?_
  refine dw_norm [_, _, _] rfl ?_
  refine dw_end rfl ?_
  refine xp_seq ?_
  refine xp_region rfl ?_
  refine op_loadPA 0 (vs := [.int .i64 _, .int .i64 _, .int .i64 _, .int .i64 _, .int .i64 _, .slice _ _ _, .slice _ _ _, .slice _ _ _, .slice _ _ _]) rfl rfl rfl rfl rfl ?_
  refine op_storeP 1 (v := .agg #[.int .i64 _, .int .i64 _, .int .i64 _, .int .i64 _, .int .i64 _, .slice _ _ _, .slice _ _ _, .slice _ _ _, .slice _ _ _]) (vs := [_, _, _, _, _, _, _, _, _]) (c' := [_, _, _, _, _, _, _, _, _]) rfl rfl rfl rfl rfl rfl rfl rfl rfl ?_
  refine wp_norm [_, _, _] rfl ?_
  have ha3 : AccR 36 3 ((m.pins.eraseIdx i).flatMap pinC) a2 := by rw [ee, List.flatMap_append]; exact ha2
  obtain ⟨p8, A8, n8, c8⟩ := a2
  obtain rfl : n8 = (m.pins.eraseIdx i).length := by have := AccR.len ha3; rw [flat_len (m := 3) (fun _ _ => rfl)] at this; dsimp only at this; omega
  refine xp_ret ?_
  refine res_list (vs := [_]) Try.results64 ⟨resV_agg 1 rfl rfl rfl rfl rfl (vs := [.int .i64 _, .int .i64 _, .int .i64 _, .int .i64 _, .int .i64 _, .slice _ _ _, .slice _ _ _, .slice _ _ _, .slice _ _ _]) rfl, trivial⟩ fun V => ?_
  exact ⟨(Ext.trans (Ext.trans E1a E2a) (ext_wl V)), A8, c8, rfl, row_acc (i := 2) ha3 (by omega) (fun _ _ => rfl) V rfl, AccP.cap ha3 (by omega)⟩
set_option maxHeartbeats 2000000 in
theorem WithoutLinkR_ok (m : MachP) (i : Nat) (hi : i < m.links.length) (hl : m.links.length < 2 ^ 20) (AB AQ AL AW : Option Addr) (cB cQ cL cW : Nat) (hc : m.links.length ≤ cL) (h : AH) (R : Row h 4 linkC AL m.links) :
    FnT Try.prog 126 #[machV AB AQ AL AW cB cQ cL cW m, .int .i64 i] h (fun v h' => ∃ A c, v = machV AB AQ A AW cB cQ c cW { m with links := m.links.eraseIdx i } ∧ Row h' 4 linkC A (m.links.eraseIdx i) ∧ (m.links.eraseIdx i).length ≤ c) := by
  have el : (m.links.take i).length = i := by rw [List.length_take]; omega
  have ee : m.links.eraseIdx i = m.links.take i ++ m.links.drop (i + 1) := List.eraseIdx_eq_take_drop_succ ..
  have ed : (m.links.drop (i + 1)).length = m.links.length - (i + 1) := List.length_drop ..
  refine call_body Try.func126 rfl Try.ntmps126 rfl ?_
  refine xp_seq ?_
  refine xp_region rfl ?_
  refine op_box (v := .agg #[.int .i64 _, .int .i64 _, .int .i64 _, .int .i64 _, .int .i64 _, .slice _ _ _, .slice _ _ _, .slice _ _ _, .slice _ _ _]) (cs := [_, _, _, _, _, _, _, _, _]) rfl rfl fun b2 hb2 => ?_
  refine wp_norm [_] rfl ?_
  refine op_alloc (cs := [_, _, _, _, _, _, _, _, _]) rfl rfl fun b4 hb4 => ?_
  refine wp_norm [_, _] rfl ?_
  refine xp_seq ?_
  refine xp_dw [false, false, true] rfl rfl rfl ?_
  refine dw_pure (i := 1) rfl (by decide +kernel) (pv_fieldAddr rfl rfl rfl rfl 7 rfl) ?_
  refine dw_load (i := 2) rfl (by decide +kernel) ?_
  refine op_loadP 0 (v := .slice _ _ _) rfl rfl rfl rfl ?_
  refine dw_pure (i := 3) rfl (by decide +kernel) (pv_move (v := .int .i64 _) rfl) ?_
  refine dw_pure (i := 4) rfl (by decide +kernel) (pv_sliceHi i rfl rfl rfl rfl rfl (by omega)) ?_
  have R1 := row_take R i
  have R2 := row_drop (k := i + 1) (cap := cL) R hi hc
  refine dw_pure (i := 6) rfl (by decide +kernel) (pv_fieldAddr rfl rfl rfl rfl 7 rfl) ?_
  refine dw_load (i := 7) rfl (by decide +kernel) ?_
  refine op_loadP 0 (v := .slice _ _ _) rfl rfl rfl rfl ?_
  refine dw_pure (i := 8) rfl (by decide +kernel) (pv_move (v := .int .i64 _) rfl) ?_
  refine dw_pure (i := 9) rfl (by decide +kernel) (pv_arith rfl (by omega)) ?_
  refine dw_pure (i := 10) rfl (by decide +kernel) (pv_sliceLo (i + 1) rfl rfl (by omega) rfl rfl (by omega) hc) ?_
  refine dw_eff (i := 0) rfl (by decide +kernel) ?_
  refine op_buildSlice (zc := [_, _, _, _]) (vs := []) (cs := []) rfl rfl rfl rfl rfl rfl rfl fun b5 hb5 => ?_
  refine ⟨ext_newM hb5 _, ?_⟩
  refine dw_norm [_, _, _] rfl ?_
  refine dw_eff (i := 5) rfl (by decide +kernel) ?_
  refine op_appendR 2 accR_new rfl rfl rfl (fun V => R1.2.ext (Ext.trans (Ext.refl _) (ext_wl V))) ((flat_len R1.1).trans (congrArg (· * 4) el)) (flat_plain linkP (m.links.take i)) rfl rfl rfl rfl rfl rfl rfl (by omega) rfl (by have e1 := flat_len R1.1; rw [List.length_nil]; omega) fun a1 h1a E1a ha1 => ?_
  refine ⟨ext_wlm E1a _, ?_⟩
  refine dw_norm [_, _, _] rfl ?_
  refine dw_last (i := 11) rfl (by decide +kernel) (by decide +kernel) ?_
  refine op_appendR 2 ha1 rfl rfl rfl (fun V => R2.2.ext (Ext.trans E1a (ext_wl V))) ((flat_len R2.1).trans (congrArg (· * 4) ed)) (flat_plain linkP (m.links.drop (i + 1))) rfl rfl rfl rfl rfl rfl rfl (by omega) rfl (by have e1 := flat_len R1.1; have e2 := flat_len R2.1; rw [List.nil_append]; omega) fun a2 h2a E2a ha2 => ?_
  refine dw_norm [_, _, _] rfl ?_
  refine dw_pure (i := 12) rfl (by decide +kernel) (pv_fieldAddr rfl rfl rfl rfl 7 rfl) ?_
  refine dw_last (i := 13) rfl (by decide +kernel) (by decide +kernel) ?_
  refine op_storeP 0 (v := .slice _ _ _) (vs := [_]) (c' := [_, _, _, _, _, _, _, _, _]) rfl rfl rfl rfl rfl rfl rfl rfl rfl ?_
  refine dw_norm [_, _, _] rfl ?_
  refine dw_end rfl ?_
  refine xp_seq ?_
  refine xp_region rfl ?_
  refine op_loadPA 0 (vs := [.int .i64 _, .int .i64 _, .int .i64 _, .int .i64 _, .int .i64 _, .slice _ _ _, .slice _ _ _, .slice _ _ _, .slice _ _ _]) rfl rfl rfl rfl rfl ?_
  refine op_storeP 1 (v := .agg #[.int .i64 _, .int .i64 _, .int .i64 _, .int .i64 _, .int .i64 _, .slice _ _ _, .slice _ _ _, .slice _ _ _, .slice _ _ _]) (vs := [_, _, _, _, _, _, _, _, _]) (c' := [_, _, _, _, _, _, _, _, _]) rfl rfl rfl rfl rfl rfl rfl rfl rfl ?_
  refine wp_norm [_, _, _] rfl ?_
  have ha3 : AccR 39 4 ((m.links.eraseIdx i).flatMap linkC) a2 := by rw [ee, List.flatMap_append]; exact ha2
  obtain ⟨p8, A8, n8, c8⟩ := a2
  obtain rfl : n8 = (m.links.eraseIdx i).length := by have := AccR.len ha3; rw [flat_len (m := 4) (fun _ _ => rfl)] at this; dsimp only at this; omega
  refine xp_ret ?_
  refine res_list (vs := [_]) Try.results126 ⟨resV_agg 1 rfl rfl rfl rfl rfl (vs := [.int .i64 _, .int .i64 _, .int .i64 _, .int .i64 _, .int .i64 _, .slice _ _ _, .slice _ _ _, .slice _ _ _, .slice _ _ _]) rfl, trivial⟩ fun V => ?_
  exact ⟨(Ext.trans (Ext.trans E1a E2a) (ext_wl V)), A8, c8, rfl, row_acc (i := 2) ha3 (by omega) (fun _ _ => rfl) V rfl, AccP.cap ha3 (by omega)⟩
def conK : Nat → Nat → FaultP
  | 0 => .shut
  | 1 => .opn
  | 2 => .pin
  | _ => .link
def cntK (m : MachP) : Nat → Nat
  | 0 => m.levers.toNat
  | 1 => m.levers.toNat
  | 2 => m.pins.length
  | 3 => m.links.length
  | _ => 0
def fsK (m : MachP) : Nat → List FaultP
  | 0 => []
  | q + 1 => fsK m q ++ fsN (conK q) (cntK m q)
theorem fsK4 (m : MachP) : fsK m 4 = faultsM m := by simp [fsK, faultsM, fs3, fs2, fs1, conK, cntK]
theorem toldK {q : Nat} (hq : q < 4) (i : Nat) : toldC (conK q i) = [.int .i64 ((q : Int) + 1), .int .i64 i] := by
  match q, hq with
  | 0, _ => rfl
  | 1, _ => rfl
  | 2, _ => rfl
  | 3, _ => rfl
theorem cntK_at {m : MachP} {q : Nat} (hq : q < 4) (h0 : 0 ≤ m.levers) : [m.levers, m.levers, (m.pins.length : Int), (m.links.length : Int)].getD q 0 = (cntK m q : Nat) := by
  match q, hq with
  | 0, _ => show m.levers = (m.levers.toNat : Int); omega
  | 1, _ => show m.levers = (m.levers.toNat : Int); omega
  | 2, _ => rfl
  | 3, _ => rfl
theorem cntK_le {m : MachP} (M : MOK m) (q : Nat) : cntK m q ≤ 8 := by
  have := M.levers
  have := M.pl
  have := M.ll
  match q with
  | 0 => show m.levers.toNat ≤ 8; omega
  | 1 => show m.levers.toNat ≤ 8; omega
  | 2 => show m.pins.length ≤ 8; omega
  | 3 => show m.links.length ≤ 8; omega
  | q + 4 => exact Nat.zero_le _
theorem fsK_len {m : MachP} (M : MOK m) : ∀ q, (fsK m q).length ≤ 8 * q
  | 0 => Nat.le_refl _
  | q + 1 => by
    have h1 := fsK_len M q
    have h2 := cntK_le M q
    rw [fsK, List.length_append, fsN_len]
    omega
set_option maxHeartbeats 2000000 in
theorem faultsR_ok (m : MachP) (M : MOK m) (AB AQ AL AW : Option Addr) (cB cQ cL cW : Nat) (h : AH) :
    FnT Try.prog 95 #[machV AB AQ AL AW cB cQ cL cW m] h (fun v h' => SlR h' 2 toldC (faultsM m) v) := by
  have mlv := M.levers
  have mpl := M.pl
  have mll := M.ll
  refine call_body Try.func95 rfl Try.ntmps95 rfl ?_
  refine xp_seq ?_
  refine xp_region rfl ?_
  refine op_box (v := .agg #[.int .i64 _, .int .i64 _, .int .i64 _, .int .i64 _, .int .i64 _, .slice _ _ _, .slice _ _ _, .slice _ _ _, .slice _ _ _]) (cs := [_, _, _, _, _, _, _, _, _]) rfl rfl fun b1 hb1 => ?_
  refine wp_norm [_] rfl ?_
  refine op_pure (pv_assign (v := .slice _ _ _) rfl) ?_
  refine goes_more ?_
  refine goes_norm [_, _] rfl ?_
  refine xp_seq ?_
  refine xp_region rfl ?_
  refine op_pure (pv_assign (v := .slice _ _ _) rfl) ?_
  refine xp_seq ?_
  refine xp_region rfl ?_
  refine op_pure (pv_fieldAddr rfl rfl rfl rfl 1 rfl) ?_
  refine op_loadP 0 (v := .int .i64 _) rfl rfl rfl rfl ?_
  refine op_pure (pv_fieldAddr rfl rfl rfl rfl 1 rfl) ?_
  refine op_loadP 0 (v := .int .i64 _) rfl rfl rfl rfl ?_
  refine op_pure (pv_fieldAddr rfl rfl rfl rfl 6 rfl) ?_
  refine op_loadP 0 (v := .slice _ _ _) rfl rfl rfl rfl ?_
  refine op_pure (pv_len rfl rfl) ?_
  refine op_pure (pv_fieldAddr rfl rfl rfl rfl 7 rfl) ?_
  refine op_loadP 0 (v := .slice _ _ _) rfl rfl rfl rfl ?_
  refine op_pure (pv_len rfl rfl) ?_
  refine op_buildSlice (zc := [_]) (vs := [(0, .int .i64 _), (1, .int .i64 _), (2, .int .i64 _), (3, .int .i64 _)]) (cs := [_, _, _, _]) rfl rfl rfl rfl rfl rfl rfl fun b17 hb17 => ?_
  refine wp_norm [_, _, _] rfl ?_
  refine op_pure (pv_assign (v := .slice _ _ _) rfl) ?_
  refine xp_seq ?_
  refine xp_seq ?_
  refine xp_region rfl ?_
  refine op_pure (pv_assign (v := .int .i64 _) rfl) ?_
  refine xp_block ?_
  refine xp_loopL [3, 5, 6, 18, 19, 20, 21, 22, 23, 24, 25, 26, 27, 28, 29, 30, 31, 32, 33, 34, 35, 36] 3 (α := Nat × Acc) (fun ⟨q, a⟩ => [(5, .int .i64 ((q : Int) + 1)), (3, .slice a.A a.n a.c)]) (fun ⟨q, a⟩ L => L.set 1 (a.p)) (fun ⟨q, a⟩ h_q => q ≤ 4 ∧ AccR 87 2 ((fsK m q).flatMap toldC) a) (fun ⟨q, a⟩ => 4 - q) ((0, acc0)) ⟨rfl, rfl, trivial⟩ (rfl) (⟨Nat.zero_le _, accR0⟩) ?_
  rintro ⟨q, a⟩ T1 h_q E_q J_q
  refine goes_norm [_, _, _] rfl ?_
  obtain ⟨J1, J2⟩ := J_q
  refine xp_seq ?_
  refine xp_seq ?_
  refine xp_region rfl ?_
  refine op_pure (pv_move (v := .int .i64 _) rfl) ?_
  refine op_pure (pv_of (v := .bool _) rfl) ?_
  refine xp_cond rfl (fun hq => ?_) (fun hq => ?_)
  · skip
    have hql : q < 4 := by have := of_decide_eq_true hq; omega
    have hcn := cntK_at (m := m) hql (by omega)
    have hcl := cntK_le M q
    have hfl := fsK_len M q
    refine xp_skip ?_
    refine xp_seq ?_
    refine xp_block ?_
    refine xp_seq ?_
    refine xp_region rfl ?_
    refine op_pure (pv_assign (v := .int .i64 _) rfl) ?_
    refine xp_block ?_
    refine xp_loopL [3, 6, 22, 23, 24, 25, 26, 27, 28, 29, 30, 31, 32, 33, 34, 35, 36] 3 (α := Nat × Acc) (fun ⟨i, a2⟩ => [(6, .int .i64 i), (3, .slice a2.A a2.n a2.c)]) (fun ⟨i, a2⟩ L => L.set 1 (a2.p)) (fun ⟨i, a2⟩ h_i => i ≤ cntK m q ∧ AccR 87 2 ((fsK m q ++ fsN (conK q) i).flatMap toldC) a2) (fun ⟨i, a2⟩ => cntK m q - i) ((0, a)) ⟨rfl, rfl, trivial⟩ (rfl) (⟨Nat.zero_le _, by simpa [fsN] using J2⟩) ?_
    rintro ⟨i, a2⟩ T2 h_i E_i J_i
    refine goes_norm [_, _, _] rfl ?_
    obtain ⟨K1, K2⟩ := J_i
    refine xp_seq ?_
    refine xp_seq ?_
    refine xp_region rfl ?_
    refine op_pure (pv_move (v := .int .i64 _) rfl) ?_
    refine op_pure (pv_move (v := .slice _ _ _) rfl) ?_
    refine op_pure (pv_move (v := .int .i64 _) rfl) ?_
    refine op_pure (pv_arith rfl (by omega)) ?_
    refine op_pure (pv_index (m := 1) rfl rfl rfl rfl (by omega) (by omega)) ?_
    refine op_loadP 2 (v := .int .i64 (cntK m q : Nat)) rfl rfl rfl (by rw [← hcn]; exact tV_at (t := [m.levers, m.levers, (m.pins.length : Int), (m.links.length : Int)]) (by omega) hql) ?_
    refine op_pure (pv_of (v := .bool _) rfl) ?_
    refine xp_cond rfl (fun hi => ?_) (fun hi => ?_)
    · skip
      have hil : i < cntK m q := ltI hi
      have hln : ((fsK m q ++ fsN (conK q) i).flatMap toldC).length = ((fsK m q).length + i) * 2 := by rw [flat_len (m := 2) (fun x _ => toldM x), List.length_append, fsN_len]
      refine xp_skip ?_
      refine xp_seq ?_
      refine xp_block ?_
      refine xp_region rfl ?_
      refine op_pure (pv_move (v := .slice _ _ _) rfl) ?_
      refine op_pure (pv_move (v := .int .i64 _) rfl) ?_
      refine op_pure (pv_move (v := .int .i64 _) rfl) ?_
      refine op_pure (pv_build (zc := [_, _]) (vs := [(0, .int .i64 _), (1, .int .i64 _)]) (cs := [_, _]) rfl rfl rfl rfl rfl rfl) ?_
      refine op_buildSlice (zc := [_, _]) (vs := [(0, .agg #[.int .i64 _, .int .i64 _])]) (cs := [_, _]) rfl rfl rfl rfl rfl rfl rfl fun b35 hb35 => ?_
      refine wp_norm [_, _, _, _] rfl ?_
      refine op_appendR 1 K2 rfl rfl rfl (fun V => rdP V (i := 3) rfl) rfl rfl rfl rfl rfl rfl rfl rfl rfl (by omega) rfl (by rw [hln]; simp; omega) fun a4 h3a E3a ha4 => ?_
      refine wp_norm [_, _, _, _] rfl ?_
      refine op_pure (pv_assign (v := .slice _ _ _) rfl) ?_
      refine xp_region rfl ?_
      refine op_pure (pv_move (v := .int .i64 _) rfl) ?_
      refine op_pure (pv_arith rfl (by omega)) ?_
      refine op_pure (pv_assign (v := .int .i64 _) rfl) ?_
      refine ⟨(i + 1, a4), ⟨rfl, rfl, trivial⟩, rfl, rfl, (Ext.trans E_i E3a), fun h3 E3 => ⟨hil, by rw [fsN_succ, ← List.append_assoc, List.flatMap_append, List.flatMap_cons, List.flatMap_nil, List.append_nil, toldK hql]; exact ha4⟩, by first | omega | (dsimp only; omega), ?_⟩
      repeat (first | exact off_base _ _ _ | refine off_upd (by decide) ?_ | refine off_updL rfl ?_ | refine off_mix rfl ?_)
    · skip
      have hie : i = cntK m q := by have := geI hi; omega
      subst hie
      refine xp_exit ?_
      refine xp_region rfl ?_
      refine op_pure (pv_move (v := .int .i64 _) rfl) ?_
      refine op_pure (pv_arith rfl (by omega)) ?_
      refine op_pure (pv_assign (v := .int .i64 _) rfl) ?_
      refine ⟨(q + 1, a2), ⟨intE (by omega), rfl, trivial⟩, rfl, rfl, (Ext.trans E_q E_i), fun h3 E3 => ⟨hql, K2⟩, by first | omega | (dsimp only; omega), ?_⟩
      repeat (first | exact off_base _ _ _ | refine off_upd (by decide) ?_ | refine off_updL rfl ?_ | refine off_mix rfl ?_)
  · skip
    have hqe : q = 4 := by have := of_decide_eq_false hq; omega
    subst hqe
    rw [fsK4] at J2
    refine xp_exit ?_
    refine xp_seq ?_
    refine xp_region rfl ?_
    refine op_pure (pv_move (v := .slice _ _ _) rfl) ?_
    refine op_pure (pv_assign (v := .slice _ _ _) rfl) ?_
    refine xp_ret ?_
    refine res_list (vs := [_]) Try.results95 ⟨resV_tmp rfl rfl, trivial⟩ fun V => ?_
    exact ⟨(Ext.trans E_q (ext_wl V)), AccP.row (i := 1) J2 (by omega) (fun x _ => toldM x) V rfl⟩
theorem FaultsR_ok (m : MachP) (M : MOK m) (AB AQ AL AW : Option Addr) (cB cQ cL cW : Nat) (h : AH) (RM : MachR h AB AQ AL AW m) :
    FnT Try.prog 48 #[machV AB AQ AL AW cB cQ cL cW m] h (fun v h' => ∃ L, v = .tuple #[L, .int .i64 0] ∧ SlR h' 2 toldC (faultsM m) L) := by
  refine call_body Try.func48 rfl Try.ntmps48 rfl ?_
  refine xp_seq ?_
  refine xp_region rfl ?_
  refine op_box (v := .agg #[.int .i64 _, .int .i64 _, .int .i64 _, .int .i64 _, .int .i64 _, .slice _ _ _, .slice _ _ _, .slice _ _ _, .slice _ _ _]) (cs := [_, _, _, _, _, _, _, _, _]) rfl rfl fun b1 hb1 => ?_
  refine wp_norm [_] rfl ?_
  refine op_pure (pv_assign (v := .slice _ _ _) rfl) ?_
  refine op_pure (pv_assign (v := .int .i64 _) rfl) ?_
  refine xp_seq ?_
  refine xp_seq ?_
  refine xp_region rfl ?_
  refine op_loadPA 0 (vs := [.int .i64 _, .int .i64 _, .int .i64 _, .int .i64 _, .int .i64 _, .slice _ _ _, .slice _ _ _, .slice _ _ _, .slice _ _ _]) rfl rfl rfl rfl rfl ?_
  refine op_fn (caps := []) (vs := [.agg #[.int .i64 _, .int .i64 _, .int .i64 _, .int .i64 _, .int .i64 _, .slice _ _ _, .slice _ _ _, .slice _ _ _, .slice _ _ _]]) rfl rfl rfl (CheckR_ok m M AB AQ AL AW cB cQ cL cW h (RM.ext (Ext.refl _))) ?_
  rintro _ h3 E3 rfl
  refine op_pure (pv_assign (v := .int .i64 _) rfl) ?_
  refine xp_seq ?_
  refine xp_region rfl ?_
  refine op_pure (pv_move (v := .int .i64 _) rfl) ?_
  refine op_pure (pv_of (v := .bool _) rfl) ?_
  refine xp_condF rfl (rfl) ?_
  refine xp_skip ?_
  refine xp_seq ?_
  refine xp_region rfl ?_
  refine op_loadPA 0 (vs := [.int .i64 _, .int .i64 _, .int .i64 _, .int .i64 _, .int .i64 _, .slice _ _ _, .slice _ _ _, .slice _ _ _, .slice _ _ _]) rfl rfl rfl rfl rfl ?_
  refine op_fn (caps := []) (vs := [.agg #[.int .i64 _, .int .i64 _, .int .i64 _, .int .i64 _, .int .i64 _, .slice _ _ _, .slice _ _ _, .slice _ _ _, .slice _ _ _]]) rfl rfl rfl (faultsR_ok m M AB AQ AL AW cB cQ cL cW h3) ?_
  rintro _ h4 E4 ⟨A4, c4, rfl, S4⟩
  refine op_pure (pv_assign (v := .slice _ _ _) rfl) ?_
  refine op_pure (pv_assign (v := .int .i64 _) rfl) ?_
  refine xp_ret ?_
  refine res_list (vs := [_, _]) Try.results48 ⟨resV_tmp rfl rfl, resV_tmp rfl rfl, trivial⟩ fun V => ?_
  exact ⟨(Ext.trans (Ext.trans E3 E4) (ext_wl V)), _, rfl, A4, c4, rfl, S4.ext (ext_wl V)⟩
end
end Go.Proofs.Ythphpbdmbmiaiaa
/- Plain: a machine without pins and links sounds like one in which they lift and turn nothing. Conditions: none. -/
namespace Go.Rd
open Go Go.HL Go.Wx
variable [Lvl]
/-- m' is m without some pins and links that do nothing. -/
structure Mut (m m' : MachP) : Prop where
  lv : m'.levers = m.levers
  op : m'.opn = m.opn
  tv : m'.travel = m.travel
  bt : m'.buttons = m.buttons
  p1 : ∀ p ∈ m'.pins, p ∈ m.pins
  p2 : ∀ p ∈ m.pins, p.lag = m.travel ∨ p ∈ m'.pins
  l1 : ∀ l ∈ m'.links, l ∈ m.links
  l2 : ∀ l ∈ m.links, l.lag = m.travel ∨ l ∈ m'.links
theorem mut_turn {m m' : MachP} {a : HandP} (X : Mut m m') (F : Fit m a) (F' : Fit m' a) (td : 0 ≤ m.travel) {r : Int} (hr : 0 ≤ r) : turnF m' a m.travel r = turnF m a m.travel r := by
  have c := turned_clo F td
  have c' := turned_clo F' td
  refine Int.le_antisymm ?_ ?_
  · exact turned_least F' (f := turnF m a m.travel) ⟨c.zero, fun b hb => by rw [X.bt]; exact c.press b hb, fun l hl ha => c.link l (X.l1 l hl) ha⟩ r hr
  · refine turned_least F (f := turnF m' a m.travel) ⟨c'.zero, fun b hb => by rw [← X.bt]; exact c'.press b hb, fun l hl ha => ?_⟩ r hr
    rcases X.l2 l hl with e | h
    · have h1 := (turnF_bd F' td l.frm).2
      have h2 := (turnF_bd F' td l.to).1
      rw [e]
      omega
    · exact c'.link l h ha
theorem mut_lift {m m' : MachP} {a : HandP} (X : Mut m m') (F : Fit m a) (F' : Fit m' a) (td : 0 ≤ m.travel) (hp : ∀ p ∈ m.pins, 0 ≤ p.rod ∧ 0 ≤ p.lever) {v : Int} (h0 : 0 ≤ v) (hv : v < m.levers) : liftF m' a m.travel v = liftF m a m.travel v := by
  have i1 := liftF_iff m a m.travel h0 hv (fun p h => (hp p h).2)
  have i2 := liftF_iff m' a m.travel h0 (by rw [X.lv]; exact hv) (fun p h => (hp p (X.p1 p h)).2)
  refine Int.le_antisymm ?_ ?_
  · have k := (i1 (liftF m a m.travel v)).1 (Int.le_refl _)
    refine (i2 _).2 ⟨k.1, fun p h e => ?_⟩
    rw [mut_turn X F F' td (hp p (X.p1 p h)).1]
    exact k.2 p (X.p1 p h) e
  · have k := (i2 (liftF m' a m.travel v)).1 (Int.le_refl _)
    refine (i1 _).2 ⟨k.1, fun p h e => ?_⟩
    rcases X.p2 p h with e2 | h2
    · have h1 := (turnF_bd F td p.rod).2
      rw [e2]
      omega
    · rw [← mut_turn X F F' td (hp p h).1]
      exact k.2 p h2 e
theorem mut_sounds {m m' : MachP} {a : HandP} (X : Mut m m') (F : Fit m a) (F' : Fit m' a) (td : 0 ≤ m.travel) (hp : ∀ p ∈ m.pins, 0 ≤ p.rod ∧ 0 ≤ p.lever) : soundsM m' a m.travel = soundsM m a m.travel := by
  apply Nat.eq_of_testBit_eq
  intro i
  unfold soundsM
  rw [maskOf_bit, maskOf_bit, X.lv]
  by_cases hi : i < m.levers.toNat
  · have e := mut_lift X F F' td hp (v := (i : Int)) (by omega) (by omega)
    unfold liftF at e
    rw [Int.toNat_natCast] at e
    rw [e, X.op]
  · simp [hi]
/-- A list without the things at some places. -/
def keepF {α : Type} (I : Nat → Bool) : Nat → List α → List α
  | _, [] => []
  | k, x :: xs => if I k then keepF I (k + 1) xs else x :: keepF I (k + 1) xs
theorem keepF_congr {α : Type} {I J : Nat → Bool} : ∀ {k : Nat} {xs : List α}, (∀ j, k ≤ j → I j = J j) → keepF I k xs = keepF J k xs
  | _, [], _ => rfl
  | k, x :: xs, h => by
    rw [keepF, keepF, h k (Nat.le_refl _), keepF_congr (k := k + 1) (xs := xs) fun j hj => h j (by omega)]
theorem keepF_erase {α : Type} {I : Nat → Bool} : ∀ (i k : Nat) (xs : List α), (∀ j, k ≤ j → j ≤ k + i → I j = false) → (keepF I k xs).eraseIdx i = keepF (fun j => j == k + i || I j) k xs
  | _, _, [], _ => by simp [keepF]
  | 0, k, x :: xs, h => by
    rw [keepF, keepF, h k (Nat.le_refl _) (by omega)]
    simp only [Nat.add_zero, BEq.rfl, Bool.true_or, if_true, Bool.false_eq_true, if_false]
    rw [List.eraseIdx_cons_zero]
    exact keepF_congr fun j hj => by
      have : (j == k) = false := by simp; omega
      rw [this, Bool.false_or]
  | i + 1, k, x :: xs, h => by
    have e : (k == k + (i + 1)) = false := by simp
    rw [keepF, keepF, h k (Nat.le_refl _) (by omega), e]
    simp only [Bool.false_or, Bool.false_eq_true, if_false]
    rw [List.eraseIdx_cons_succ, keepF_erase i (k + 1) xs (fun j h1 h2 => h j (by omega) (by omega)), show k + 1 + i = k + (i + 1) by omega]
theorem keepF_mem {α : Type} {I : Nat → Bool} {p : α} : ∀ {k : Nat} {xs : List α}, p ∈ keepF I k xs ↔ ∃ j, xs[j]? = some p ∧ I (k + j) = false
  | _, [] => by simp [keepF]
  | k, x :: xs => by
    have ih := keepF_mem (I := I) (p := p) (k := k + 1) (xs := xs)
    rw [keepF]
    constructor
    · intro h
      by_cases hI : I k = true
      · rw [if_pos hI, ih] at h
        obtain ⟨j, h1, h2⟩ := h
        exact ⟨j + 1, by simpa using h1, by rw [← h2]; congr 1; omega⟩
      · rw [if_neg hI, List.mem_cons] at h
        rcases h with rfl | h
        · exact ⟨0, rfl, by simpa using hI⟩
        · obtain ⟨j, h1, h2⟩ := ih.1 h
          exact ⟨j + 1, by simpa using h1, by rw [← h2]; congr 1; omega⟩
    · rintro ⟨j, h1, h2⟩
      cases j with
      | zero =>
        have e : x = p := by simpa using h1
        rw [if_neg (by rw [show k = k + 0 from rfl, h2]; decide)]
        exact List.mem_cons.2 (.inl e.symm)
      | succ j =>
        have hm : p ∈ keepF I (k + 1) xs := ih.2 ⟨j, by simpa using h1, by rw [← h2]; congr 1; omega⟩
        by_cases hI : I k = true
        · rw [if_pos hI]; exact hm
        · rw [if_neg hI]; exact List.mem_cons.2 (.inr hm)
def isPin (j : Nat) : FaultP → Bool
  | .pin i => j == i
  | _ => false
def isLink (j : Nat) : FaultP → Bool
  | .link i => j == i
  | _ => false
def rmF (o : MachP) : FaultP → MachP
  | .pin i => { o with pins := o.pins.eraseIdx i }
  | .link i => { o with links := o.links.eraseIdx i }
  | _ => o
/-- The machine without the pins and links of some faults, the last one first. -/
def ownR (m : MachP) (fs : List FaultP) : MachP := fs.foldr (fun f o => rmF o f) m
/-- Pins, and links, come in order. -/
def AscF (f g : FaultP) : Prop := (∀ i j, f = .pin i → g = .pin j → i < j) ∧ (∀ i j, f = .link i → g = .link j → i < j)
theorem own_pins (m : MachP) : ∀ {fs : List FaultP}, fs.Pairwise AscF → (ownR m fs).pins = keepF (fun j => fs.any (isPin j)) 0 m.pins ∧ (ownR m fs).links = keepF (fun j => fs.any (isLink j)) 0 m.links
  | [], _ => by
    have key : ∀ {α : Type} (k : Nat) (xs : List α), keepF (fun _ => false) k xs = xs := by
      intro α k xs
      induction xs generalizing k with
      | nil => rfl
      | cons x xs ih => rw [keepF, ih]; rfl
    exact ⟨(key 0 m.pins).symm, (key 0 m.links).symm⟩
  | f :: fs, h => by
    rw [List.pairwise_cons] at h
    obtain ⟨e1, e2⟩ := own_pins m h.2
    have eo : ownR m (f :: fs) = rmF (ownR m fs) f := rfl
    rw [eo]
    cases f with
    | shut i => exact ⟨by simpa [rmF, isPin] using e1, by simpa [rmF, isLink] using e2⟩
    | opn i => exact ⟨by simpa [rmF, isPin] using e1, by simpa [rmF, isLink] using e2⟩
    | pin i =>
      refine ⟨?_, by simpa [rmF, isLink] using e2⟩
      show (ownR m fs).pins.eraseIdx i = _
      rw [e1, keepF_erase i 0 m.pins (fun j _ hj => by
        rw [List.any_eq_false]
        intro g hg hgp
        cases g with
        | pin q =>
          have e : j = q := by simpa [isPin] using hgp
          have := (h.1 _ hg).1 i q rfl rfl
          omega
        | _ => simp [isPin] at hgp)]
      simp [isPin]
    | link i =>
      refine ⟨by simpa [rmF, isPin] using e1, ?_⟩
      show (ownR m fs).links.eraseIdx i = _
      rw [e2, keepF_erase i 0 m.links (fun j _ hj => by
        rw [List.any_eq_false]
        intro g hg hgp
        cases g with
        | link q =>
          have e : j = q := by simpa [isLink] using hgp
          have := (h.1 _ hg).2 i q rfl rfl
          omega
        | _ => simp [isLink] at hgp)]
      simp [isLink]
theorem own_same (m : MachP) : ∀ fs : List FaultP, (ownR m fs).rods = m.rods ∧ (ownR m fs).levers = m.levers ∧ (ownR m fs).regs = m.regs ∧ (ownR m fs).travel = m.travel ∧ (ownR m fs).opn = m.opn ∧ (ownR m fs).buttons = m.buttons ∧ (ownR m fs).weights = m.weights
  | [] => ⟨rfl, rfl, rfl, rfl, rfl, rfl, rfl⟩
  | f :: fs => by
    have ih := own_same m fs
    have eo : ownR m (f :: fs) = rmF (ownR m fs) f := rfl
    rw [eo]
    cases f <;> exact ih
theorem lagP_get (ps : List PinP) (i : Nat) (t : Int) (j : Nat) : (lagP ps i t)[j]? = (ps[j]?).map fun p => if j == i then ⟨p.rod, p.lever, t⟩ else p := by
  unfold lagP
  split
  · rename_i p hp
    rw [List.getElem?_set]
    by_cases h : i = j
    · subst h
      have hl := (List.getElem?_eq_some_iff.1 hp).1
      rw [if_pos rfl, if_pos hl, hp]
      simp
    · have h' : (j == i) = false := by simp; omega
      rw [if_neg h, h']
      simp
  · rename_i hp
    by_cases h : j = i
    · subst h; rw [hp]; rfl
    · have h' : (j == i) = false := by simp; omega
      rw [h']
      simp
theorem lagL_get (ls : List LinkP) (i : Nat) (t : Int) (j : Nat) : (lagL ls i t)[j]? = (ls[j]?).map fun x => if j == i then ⟨x.frm, x.to, x.reg, t⟩ else x := by
  unfold lagL
  split
  · rename_i p hp
    rw [List.getElem?_set]
    by_cases h : i = j
    · subst h
      have hl := (List.getElem?_eq_some_iff.1 hp).1
      rw [if_pos rfl, if_pos hl, hp]
      simp
    · have h' : (j == i) = false := by simp; omega
      rw [if_neg h, h']
      simp
  · rename_i hp
    by_cases h : j = i
    · subst h; rw [hp]; rfl
    · have h' : (j == i) = false := by simp; omega
      rw [h']
      simp
theorem brk_get {t : Int} : ∀ (fs : List FaultP) (b : BrkP) (j : Nat), (fs.foldl (brkS t) b).pins[j]? = (b.pins[j]?).map (fun p => if fs.any (isPin j) then ⟨p.rod, p.lever, t⟩ else p) ∧ (fs.foldl (brkS t) b).links[j]? = (b.links[j]?).map (fun x => if fs.any (isLink j) then ⟨x.frm, x.to, x.reg, t⟩ else x)
  | [], b, j => by simp
  | f :: fs, b, j => by
    obtain ⟨e1, e2⟩ := brk_get (t := t) fs (brkS t b f) j
    rw [List.foldl_cons, e1, e2]
    cases f with
    | shut i => simp [brkS, isPin, isLink]
    | opn i => simp [brkS, isPin, isLink]
    | pin i =>
      refine ⟨?_, by simp [brkS, isLink]⟩
      show ((lagP b.pins i t)[j]?).map _ = _
      rw [lagP_get, Option.map_map]
      congr 1
      funext p
      simp only [Function.comp, List.any_cons, isPin]
      by_cases h : j = i
      · subst h; simp
      · simp [h]
    | link i =>
      refine ⟨by simp [brkS, isPin], ?_⟩
      show ((lagL b.links i t)[j]?).map _ = _
      rw [lagL_get, Option.map_map]
      congr 1
      funext p
      simp only [Function.comp, List.any_cons, isLink]
      by_cases h : j = i
      · subst h; simp
      · simp [h]
theorem own_mut {m : MachP} {fs : List FaultP} (h : fs.Pairwise AscF) : Mut (brkM m fs) (ownR m fs) := by
  obtain ⟨e1, e2⟩ := own_pins m h
  obtain ⟨_, s2, _, s4, s5, s6, _⟩ := own_same m fs
  have g := fun j => brk_get (t := m.travel) fs ⟨m.pins, m.links, 0, 0⟩ j
  refine ⟨s2, s5, s4, s6, fun p hp => ?_, fun p hp => ?_, fun l hl => ?_, fun l hl => ?_⟩
  · rw [e1, keepF_mem] at hp
    obtain ⟨j, h1, h2⟩ := hp
    rw [Nat.zero_add] at h2
    refine List.mem_of_getElem? (i := j) ?_
    refine ((g j).1).trans ?_
    show (m.pins[j]?).map _ = _
    rw [h1, h2]; rfl
  · obtain ⟨j, hj⟩ := List.getElem?_of_mem hp
    have e := ((g j).1).symm.trans hj
    rw [show (⟨m.pins, m.links, 0, 0⟩ : BrkP).pins = m.pins from rfl] at e
    rw [Option.map_eq_some_iff] at e
    obtain ⟨q, h1, h2⟩ := e
    by_cases hI : fs.any (isPin j) = true
    · rw [if_pos hI] at h2; subst h2; exact .inl rfl
    · rw [if_neg hI] at h2; subst h2
      exact .inr (by rw [e1, keepF_mem]; exact ⟨j, h1, by rw [Nat.zero_add]; simpa using hI⟩)
  · rw [e2, keepF_mem] at hl
    obtain ⟨j, h1, h2⟩ := hl
    rw [Nat.zero_add] at h2
    refine List.mem_of_getElem? (i := j) ?_
    refine ((g j).2).trans ?_
    show (m.links[j]?).map _ = _
    rw [h1, h2]; rfl
  · obtain ⟨j, hj⟩ := List.getElem?_of_mem hl
    have e := ((g j).2).symm.trans hj
    rw [show (⟨m.pins, m.links, 0, 0⟩ : BrkP).links = m.links from rfl] at e
    rw [Option.map_eq_some_iff] at e
    obtain ⟨q, h1, h2⟩ := e
    by_cases hI : fs.any (isLink j) = true
    · rw [if_pos hI] at h2; subst h2; exact .inl rfl
    · rw [if_neg hI] at h2; subst h2
      exact .inr (by rw [e2, keepF_mem]; exact ⟨j, h1, by rw [Nat.zero_add]; simpa using hI⟩)
theorem own_mem {m : MachP} {fs : List FaultP} : (∀ p ∈ (ownR m fs).pins, p ∈ m.pins) ∧ (∀ l ∈ (ownR m fs).links, l ∈ m.links) ∧ (ownR m fs).pins.length ≤ m.pins.length ∧ (ownR m fs).links.length ≤ m.links.length := by
  induction fs with
  | nil => exact ⟨fun _ h => h, fun _ h => h, Nat.le_refl _, Nat.le_refl _⟩
  | cons f fs ih =>
    have eo : ownR m (f :: fs) = rmF (ownR m fs) f := rfl
    rw [eo]
    obtain ⟨i1, i2, i3, i4⟩ := ih
    cases f with
    | shut i => exact ⟨i1, i2, i3, i4⟩
    | opn i => exact ⟨i1, i2, i3, i4⟩
    | pin i => exact ⟨fun p h => i1 p (List.mem_of_mem_eraseIdx h), i2, Nat.le_trans (List.length_eraseIdx_le _ _) i3, i4⟩
    | link i => exact ⟨i1, fun p h => i2 p (List.mem_of_mem_eraseIdx h), i3, Nat.le_trans (List.length_eraseIdx_le _ _) i4⟩
theorem own_mok {m : MachP} (M : MOK m) (fs : List FaultP) : MOK (ownR m fs) := by
  obtain ⟨s1, s2, s3, s4, s5, s6, s7⟩ := own_same m fs
  obtain ⟨i1, i2, i3, i4⟩ := own_mem (m := m) (fs := fs)
  refine ⟨by rw [s1]; exact M.rods, by rw [s2]; exact M.levers, by rw [s3]; exact M.regs, by rw [s4]; exact M.travel, by rw [s5, s4]; exact M.opn, by rw [s6]; exact M.bl, by rw [s6, s1]; exact M.btn, Nat.le_trans i3 M.pl, ?_, Nat.le_trans i4 M.ll, ?_, by rw [s7, s2]; exact M.wl, by rw [s7]; exact M.wt⟩
  · intro p hp; rw [s1, s2, s4]; exact M.pin p (i1 p hp)
  · intro l hl; rw [s1, s3, s4]; exact M.link l (i2 l hl)
theorem own_hok {m : MachP} {a : HandP} (H : HOK m a) (fs : List FaultP) : HOK (ownR m fs) a := by
  obtain ⟨_, _, s3, _, _, s6, _⟩ := own_same m fs
  exact ⟨by rw [s6]; exact H.b, by rw [s3]; exact H.o⟩
theorem own_sounds {m : MachP} {a : HandP} (M : MOK m) (H : HOK m a) {fs : List FaultP} (h : fs.Pairwise AscF) : soundsM (ownR m fs) a m.travel = soundsM (brkM m fs) a m.travel := by
  have tr := M.travel
  have M2 := brk_mok M fs
  refine mut_sounds (m := brkM m fs) (own_mut h) (fit_of M2 (brk_hok H fs)) (fit_of (own_mok M fs) (own_hok H fs)) (by show 0 ≤ m.travel; omega) fun p hp => ?_
  have := M2.pin p hp
  exact ⟨this.1.1, this.2.1.1⟩
theorem keepF_lt {α : Type} {I : Nat → Bool} : ∀ (i k : Nat) (xs : List α), i < xs.length → (∀ j, k ≤ j → j ≤ k + i → I j = false) → i < (keepF I k xs).length
  | _, _, [], h, _ => by simp at h
  | 0, k, x :: xs, _, h => by
    rw [keepF, h k (Nat.le_refl _) (by omega)]
    simp
  | i + 1, k, x :: xs, hl, h => by
    have ih := keepF_lt i (k + 1) xs (by simpa using hl) (fun j h1 h2 => h j (by omega) (by omega))
    rw [keepF, h k (Nat.le_refl _) (by omega)]
    simpa using ih
theorem own_pin_lt {m : MachP} {fs : List FaultP} {i : Nat} (h : (FaultP.pin i :: fs).Pairwise AscF) (hi : i < m.pins.length) : i < (ownR m fs).pins.length := by
  rw [List.pairwise_cons] at h
  rw [(own_pins m h.2).1]
  refine keepF_lt i 0 m.pins hi fun j _ hj => ?_
  rw [List.any_eq_false]
  intro g hg hgp
  cases g with
  | pin q =>
    have e : j = q := by simpa [isPin] using hgp
    have := (h.1 _ hg).1 i q rfl rfl
    omega
  | _ => simp [isPin] at hgp
theorem own_link_lt {m : MachP} {fs : List FaultP} {i : Nat} (h : (FaultP.link i :: fs).Pairwise AscF) (hi : i < m.links.length) : i < (ownR m fs).links.length := by
  rw [List.pairwise_cons] at h
  rw [(own_pins m h.2).2]
  refine keepF_lt i 0 m.links hi fun j _ hj => ?_
  rw [List.any_eq_false]
  intro g hg hgp
  cases g with
  | link q =>
    have e : j = q := by simpa [isLink] using hgp
    have := (h.1 _ hg).2 i q rfl rfl
    omega
  | _ => simp [isLink] at hgp
/-- The machine without the last k of some faults' pins and links. -/
def ownK (m : MachP) (fs : List FaultP) (k : Nat) : MachP := ownR m (fs.drop (fs.length - k))
theorem ownK_zero (m : MachP) (fs : List FaultP) : ownK m fs 0 = m := by
  unfold ownK
  rw [Nat.sub_zero, List.drop_length]
  rfl
theorem drop_at {fs : List FaultP} {k : Nat} (hk : k < fs.length) : fs.drop (fs.length - (k + 1)) = fs[fs.length - 1 - k]'(by omega) :: fs.drop (fs.length - k) := by
  rw [List.drop_eq_getElem_cons (show fs.length - (k + 1) < fs.length by omega)]
  have e : fs.length - (k + 1) = fs.length - 1 - k := by omega
  congr 1
  · congr 1
  · congr 1; omega
theorem ownK_succ {m : MachP} {fs : List FaultP} {k : Nat} (hk : k < fs.length) : ownK m fs (k + 1) = rmF (ownK m fs k) (fs[fs.length - 1 - k]'(by omega)) := by
  unfold ownK
  rw [drop_at hk]
  rfl
theorem ownK_all (m : MachP) (fs : List FaultP) : ownK m fs fs.length = ownR m fs := by
  unfold ownK
  rw [Nat.sub_self]
  rfl
theorem asc_drop {fs : List FaultP} (h : fs.Pairwise AscF) (k : Nat) : (fs.drop k).Pairwise AscF := h.sublist (List.drop_sublist k fs)
/-- A bit more, a bit less. -/
theorem with_list {x i : Nat} (hi : i < 6) (hb : x.testBit i = false) : ((listN x 6).filter fun z => decide (z < (i : Int))) ++ [(i : Int)] ++ (listN x 6).filter (fun z => decide (z > (i : Int))) = listN (x ||| 2 ^ i) 6 := by
  refine asc_ext ?_ (listN_asc _ _) fun z => ?_
  · rw [List.append_assoc, List.pairwise_append, List.pairwise_append]
    refine ⟨(listN_asc x 6).sublist List.filter_sublist, ⟨by simp, (listN_asc x 6).sublist List.filter_sublist, fun a ha b hb => ?_⟩, fun a ha b hb => ?_⟩
    · simp at ha hb; omega
    · rw [List.mem_filter] at ha
      have h1 := of_decide_eq_true ha.2
      rcases List.mem_append.1 hb with hb | hb
      · simp at hb; omega
      · rw [List.mem_filter] at hb
        have h2 := of_decide_eq_true hb.2
        omega
  · rw [List.mem_append, List.mem_append, List.mem_filter, List.mem_filter, List.mem_singleton, listN_bits, listN_bits]
    constructor
    · rintro ((⟨⟨j, rfl, h1, h2⟩, h3⟩ | rfl) | ⟨⟨j, rfl, h1, h2⟩, h3⟩)
      · exact ⟨j, rfl, h1, by rw [Nat.testBit_or, h2]; rfl⟩
      · exact ⟨i, rfl, hi, by rw [Nat.testBit_or, Nat.testBit_two_pow_self]; simp⟩
      · exact ⟨j, rfl, h1, by rw [Nat.testBit_or, h2]; rfl⟩
    · rintro ⟨j, rfl, h1, h2⟩
      rw [Nat.testBit_or] at h2
      by_cases e : j = i
      · exact .inl (.inr (by rw [e]))
      · rw [Nat.testBit_two_pow_of_ne (fun h => e h.symm), Bool.or_false] at h2
        rcases Nat.lt_or_gt_of_ne e with h | h
        · exact .inl (.inl ⟨⟨j, rfl, h1, h2⟩, decide_eq_true (by omega)⟩)
        · exact .inr ⟨⟨j, rfl, h1, h2⟩, decide_eq_true (by omega)⟩
theorem with_had {x i : Nat} (hb : x.testBit i = true) : x ||| 2 ^ i = x := by
  apply Nat.eq_of_testBit_eq
  intro j
  rw [Nat.testBit_or]
  by_cases e : j = i
  · subst e; rw [hb]; rfl
  · rw [Nat.testBit_two_pow_of_ne (fun h => e h.symm), Bool.or_false]
theorem has_bit {x i : Nat} (hi : i < 6) : (listN x 6).contains (i : Int) = x.testBit i := by
  rw [Bool.eq_iff_iff, List.contains_iff_mem, listN_bits]
  constructor
  · rintro ⟨j, e, _, h⟩
    have : i = j := by omega
    rw [this]; exact h
  · exact fun h => ⟨i, rfl, hi, h⟩
theorem mask_bit {d j : Nat} (hd : d < 2 ^ 64) : (2 ^ 64 - 1 - d).testBit j = (decide (j < 64) && !d.testBit j) := by
  rw [show 2 ^ 64 - 1 - d = 2 ^ 64 - (d + 1) by omega, Nat.testBit_two_pow_sub_succ hd]
theorem without_list {x d i : Nat} (hd : d < 2 ^ 6) (hi : i < 6) : (listN (x &&& (2 ^ 64 - 1 - d)) 6).filter (fun z => z != (i : Int)) = listN (x &&& (2 ^ 64 - 1 - (d ||| 2 ^ i))) 6 := by
  have d64 : d < 2 ^ 64 := by omega
  have h2 : 2 ^ i < 2 ^ 6 := Nat.pow_lt_pow_right (by omega) hi
  have d65 : d ||| 2 ^ i < 2 ^ 64 := by have := Nat.or_lt_two_pow hd h2; omega
  refine asc_ext ((listN_asc _ 6).sublist List.filter_sublist) (listN_asc _ _) fun z => ?_
  rw [List.mem_filter, listN_bits, listN_bits]
  constructor
  · rintro ⟨⟨j, rfl, h1, h2⟩, h3⟩
    have hne : j ≠ i := fun e => by subst e; simp at h3
    refine ⟨j, rfl, h1, ?_⟩
    rw [Nat.testBit_and, mask_bit d64] at h2
    rw [Nat.testBit_and, mask_bit d65, Nat.testBit_or, Nat.testBit_two_pow_of_ne (fun h => hne h.symm), Bool.or_false]
    exact h2
  · rintro ⟨j, rfl, h1, h2⟩
    rw [Nat.testBit_and, mask_bit d65, Nat.testBit_or] at h2
    by_cases e : j = i
    · subst e
      rw [Nat.testBit_two_pow_self] at h2
      simp at h2
    · rw [Nat.testBit_two_pow_of_ne (fun h => e h.symm), Bool.or_false] at h2
      exact ⟨⟨j, rfl, h1, by rw [Nat.testBit_and, mask_bit d64]; exact h2⟩, by simp; omega⟩
end Go.Rd
/- Walks of the reference: what sounds with faults. Conditions: as each theorem states. -/
namespace Go.Proofs.Ythphpbdmbmiaiaa
open Go Go.HL Go.Proofs Go.Wx Go.Rd
section
variable [Lvl]
set_option maxRecDepth 100000
theorem fsN_get {c : Nat → FaultP} {k j : Nat} {f : FaultP} (h : (fsN c k)[j]? = some f) : j < k ∧ f = c j := by
  unfold fsN at h
  rw [List.getElem?_map] at h
  by_cases hj : j < k
  · rw [List.getElem?_range hj] at h
    simp at h
    exact ⟨hj, h.symm⟩
  · rw [List.getElem?_eq_none (by simp; omega)] at h
    simp at h
theorem fault_ix {m : MachP} {x : Nat} {f : FaultP} (h : (faultsM m)[x]? = some f) : (∃ i, f = .shut i) ∨ (∃ i, f = .opn i) ∨ (∃ i, f = .pin i ∧ x = 2 * m.levers.toNat + i) ∨ (∃ i, f = .link i ∧ x = 2 * m.levers.toNat + m.pins.length + i) := by
  have l1 : (fs1 m).length = m.levers.toNat := by rw [fs1, fsN_len]
  have l2 : (fs2 m).length = 2 * m.levers.toNat := by rw [fs2, List.length_append, l1, fsN_len]; omega
  have l3 : (fs3 m).length = 2 * m.levers.toNat + m.pins.length := by rw [fs3, List.length_append, l2, fsN_len]
  rw [faultsM, List.getElem?_append] at h
  split at h
  · rw [fs3, List.getElem?_append] at h
    split at h
    · rw [fs2, List.getElem?_append] at h
      split at h
      · exact .inl ⟨x, (fsN_get h).2⟩
      · exact .inr (.inl ⟨_, (fsN_get h).2⟩)
    · exact .inr (.inr (.inl ⟨_, (fsN_get h).2, by omega⟩))
  · exact .inr (.inr (.inr ⟨_, (fsN_get h).2, by omega⟩))
theorem pick_asc {m : MachP} {l : List Int} (S : SetOK l (faultsM m).length) : (pickL m l).Pairwise AscF := by
  unfold pickL
  rw [List.pairwise_map]
  refine S.asc.imp_of_mem fun {a b} ha hb hab => ?_
  obtain ⟨a0, a1⟩ := S.mem a ha
  obtain ⟨b0, b1⟩ := S.mem b hb
  have ea : (faultsM m)[a.toNat]? = some ((faultsM m).getD a.toNat (.shut 0)) := by rw [List.getD_eq_getElem?_getD, List.getElem?_eq_getElem (by omega)]; rfl
  have eb : (faultsM m)[b.toNat]? = some ((faultsM m).getD b.toNat (.shut 0)) := by rw [List.getD_eq_getElem?_getD, List.getElem?_eq_getElem (by omega)]; rfl
  generalize (faultsM m).getD a.toNat (.shut 0) = f at ea ⊢
  generalize (faultsM m).getD b.toNat (.shut 0) = g at eb ⊢
  have fa := fault_ix ea
  have fb := fault_ix eb
  refine ⟨fun i j e1 e2 => ?_, fun i j e1 e2 => ?_⟩
  · subst e1 e2
    simp at fa fb
    omega
  · subst e1 e2
    simp at fa fb
    omega
theorem pick_at {m : MachP} {l : List Int} (S : SetOK l (faultsM m).length) {k : Nat} (hk : k < l.length) (hp : k < (pickL m l).length) : ∃ h : l[k].toNat < (faultsM m).length, (pickL m l)[k] = (faultsM m)[l[k].toNat] := by
  obtain ⟨a0, a1⟩ := S.mem _ (List.getElem_mem hk)
  have h : l[k].toNat < (faultsM m).length := by omega
  exact ⟨h, by simp [pickL, List.getD_eq_getElem?_getD, List.getElem?_eq_getElem h]⟩
theorem slcE {A : Option Addr} {n n' c : Nat} (e : n = n') : Value.slice A n c = Value.slice A n' c := by rw [e]
theorem lenE {x y : Nat} (e : x = y) : (listN x 6).length = (listN y 6).length := by rw [e]
theorem rowE {h : AH} {A : Option Addr} {x y : Nat} (e : x = y) (R : Row h 1 intC A (listN x 6)) : Row h 1 intC A (listN y 6) := e ▸ R
set_option maxHeartbeats 8000000 in
theorem brokenR_ok (m : MachP) (M : MOK m) (l : List Int) (S : SetOK l (faultsM m).length) (a : HandP) (H : HOK m a) (AB AQ AL AW NA HA OA : Option Addr) (cB cQ cL cW cN cH cO : Nat) (hcQ : m.pins.length ≤ cQ) (hcL : m.links.length ≤ cL) (h : AH) (RM : MachR h AB AQ AL AW m) (RN : Row h 1 intC NA l) (RH : HandR h HA OA a) :
    FnT Try.prog 107 #[machV AB AQ AL AW cB cQ cL cW m, .slice NA l.length cN, handV HA OA cH cO a] h (fun v h' => SlR h' 1 intC (listN (soundsB m (pickL m l) a) 6) v) := by
  have mlv := M.levers
  have mpl := M.pl
  have mll := M.ll
  have mtr := M.travel
  have fln := faults_len m
  have hll : l.length ≤ (faultsM m).length := set_len S
  obtain ⟨fs, hfs⟩ : ∃ fs, fs = pickL m l := ⟨_, rfl⟩
  have hfl : fs.length = l.length := by rw [hfs, pickL, List.length_map]
  have hfo : ∀ f ∈ fs, FOK m f := by rw [hfs]; exact pickL_fok M S.mem
  have hfa : fs.Pairwise AscF := by rw [hfs]; exact pick_asc S
  have hfx : ∀ k (hk : k < l.length) (hp : k < fs.length), ∃ hx : l[k].toNat < (faultsM m).length, fs[k] = (faultsM m)[l[k].toNat] := fun k hk hp => by subst hfs; exact pick_at S hk hp
  have hls : ∀ x ∈ l, 0 ≤ x := fun x hx => (S.mem x hx).1
  rw [← hfs]
  refine call_body Try.func107 rfl Try.ntmps107 rfl ?_
  refine xp_seq ?_
  refine xp_region rfl ?_
  refine op_box (v := .agg #[.int .i64 _, .int .i64 _, .int .i64 _, .int .i64 _, .int .i64 _, .slice _ _ _, .slice _ _ _, .slice _ _ _, .slice _ _ _]) (cs := [_, _, _, _, _, _, _, _, _]) rfl rfl fun b3 hb3 => ?_
  refine wp_norm [_] rfl ?_
  refine op_box (v := .agg #[.slice _ _ _, .slice _ _ _]) (cs := [_, _]) rfl rfl fun b5 hb5 => ?_
  refine wp_norm [_, _] rfl ?_
  refine op_pure (pv_assign (v := .slice _ _ _) rfl) ?_
  refine xp_seq ?_
  refine xp_region rfl ?_
  refine op_loadPA 0 (vs := [.int .i64 _, .int .i64 _, .int .i64 _, .int .i64 _, .int .i64 _, .slice _ _ _, .slice _ _ _, .slice _ _ _, .slice _ _ _]) rfl rfl rfl rfl rfl ?_
  refine op_fn (caps := []) (vs := [.agg #[.int .i64 _, .int .i64 _, .int .i64 _, .int .i64 _, .int .i64 _, .slice _ _ _, .slice _ _ _, .slice _ _ _, .slice _ _ _]]) rfl rfl rfl (faultsR_ok m M AB AQ AL AW cB cQ cL cW h) ?_
  rintro _ h1 E1 ⟨FA, cF, rfl, RF⟩
  refine op_pure (pv_assign (v := .slice _ _ _) rfl) ?_
  refine xp_seq ?_
  refine xp_region rfl ?_
  refine op_loadPA 0 (vs := [.int .i64 _, .int .i64 _, .int .i64 _, .int .i64 _, .int .i64 _, .slice _ _ _, .slice _ _ _, .slice _ _ _, .slice _ _ _]) rfl rfl rfl rfl rfl ?_
  refine op_alloc (cs := [_, _, _, _, _, _, _, _, _]) rfl rfl fun b8 hb8 => ?_
  refine wp_norm [_, _, _] rfl ?_
  refine op_storeP 2 (v := .agg #[.int .i64 _, .int .i64 _, .int .i64 _, .int .i64 _, .int .i64 _, .slice _ _ _, .slice _ _ _, .slice _ _ _, .slice _ _ _]) (vs := [_, _, _, _, _, _, _, _, _]) (c' := [_, _, _, _, _, _, _, _, _]) rfl rfl rfl rfl rfl rfl rfl rfl rfl ?_
  refine wp_norm [_, _, _] rfl ?_
  refine xp_seq ?_
  refine xp_seq ?_
  refine xp_region rfl ?_
  refine op_pure (pv_move (v := .slice _ _ _) rfl) ?_
  refine op_pure (pv_len rfl rfl) ?_
  refine op_pure (pv_arith rfl (by omega)) ?_
  refine op_pure (pv_assign (v := .int .i64 _) rfl) ?_
  refine xp_block ?_
  refine xp_loopL [9, 10, 22, 23, 24, 25, 26, 27, 28, 29, 30, 31, 32, 33, 34, 35, 36, 37, 38, 39, 40, 41, 42, 43, 44, 45, 46] 3 (α := Nat × MachP × Option Addr × Nat × Option Addr × Nat) (fun ⟨k, o, AQ1, cQ1, AL1, cL1⟩ => [(9, .int .i64 ((l.length : Int) - 1 - k))]) (fun ⟨k, o, AQ1, cQ1, AL1, cL1⟩ L => L.set 2 (some (b8, .cells #[.int .i64 o.rods, .int .i64 o.levers, .int .i64 o.regs, .int .i64 o.travel, .int .i64 o.opn, .slice AB o.buttons.length cB, .slice AQ1 o.pins.length cQ1, .slice AL1 o.links.length cL1, .slice AW o.weights.length cW] 28 (0, 0)))) (fun ⟨k, o, AQ1, cQ1, AL1, cL1⟩ h_k => (k ≤ l.length ∧ o = ownK m fs k) ∧ Row h_k 3 pinC AQ1 o.pins ∧ Row h_k 4 linkC AL1 o.links ∧ o.pins.length ≤ cQ1 ∧ o.links.length ≤ cL1) (fun ⟨k, o, AQ1, cQ1, AL1, cL1⟩ => l.length - k) ((0, m, AQ, cQ, AL, cL)) ⟨intE (by omega), trivial⟩ (rfl) (⟨⟨Nat.zero_le _, (ownK_zero m fs).symm⟩, RM.q.ext E1, RM.l.ext E1, hcQ, hcL⟩) ?_
  rintro ⟨k, o, AQ1, cQ1, AL1, cL1⟩ T1 h_k E_k J_k
  refine goes_norm [_, _, _] rfl ?_
  obtain ⟨⟨J1, J6⟩, J2, J3, J4, J5⟩ := J_k
  refine xp_seq ?_
  refine xp_seq ?_
  refine xp_region rfl ?_
  refine op_pure (pv_move (v := .int .i64 _) rfl) ?_
  refine op_pure (pv_of (v := .bool _) rfl) ?_
  refine xp_cond rfl (fun hk => ?_) (fun hk => ?_)
  · skip
    have hkl : k < l.length := by have := of_decide_eq_true hk; omega
    have hjx : l.length - 1 - k < l.length := by omega
    have hjf : fs.length - 1 - k < fs.length := by omega
    obtain ⟨hx, hfe⟩ := hfx (l.length - 1 - k) hjx (by omega)
    have hl0 := hls _ (List.getElem_mem hjx)
    have hsc := ownK_succ (m := m) (fs := fs) (k := k) (by omega)
    have hasc := asc_drop hfa (fs.length - (k + 1))
    rw [drop_at (fs := fs) (k := k) (by omega)] at hasc
    have hef : fs[fs.length - 1 - k] = (faultsM m)[l[l.length - 1 - k].toNat] := by rw [← hfe]; congr 1; omega
    have hok := hfo _ (List.getElem_mem hjf)
    rw [hef] at hsc hasc hok
    rw [← J6] at hsc
    obtain ⟨g, off, hA, hc⟩ := (RN.ext (Ext.trans E1 E_k)).at (by omega) hjx
    have hc : Cells h_k g (off + ((l.length : Int) - 1 - k).toNat * 1) (intC l[l.length - 1 - k]) := by rw [show ((l.length : Int) - 1 - k).toNat = l.length - 1 - k by omega]; exact hc
    obtain ⟨g2, off2, hA2, hc2⟩ := (RF.ext E_k).at (by omega) hx
    obtain ⟨F, hF⟩ : ∃ F, F = (faultsM m)[l[l.length - 1 - k].toNat] := ⟨_, rfl⟩
    rw [← hF] at hc2 hsc hasc hok
    refine xp_skip ?_
    refine xp_seq ?_
    refine xp_block ?_
    refine xp_seq ?_
    refine xp_region rfl ?_
    refine op_pure (pv_move (v := .slice _ _ _) rfl) ?_
    refine op_pure (pv_move (v := .slice _ _ _) rfl) ?_
    refine op_pure (pv_move (v := .int .i64 _) rfl) ?_
    refine op_pure (pv_indexE rfl hA rfl rfl rfl (by omega) (by omega)) ?_
    refine op_load (v := .int .i64 _) rfl rfl ((hc) 0 _ rfl) ?_
    refine op_pure (pv_indexE (m := 2) rfl hA2 rfl rfl rfl (by omega) (by omega)) ?_
    rcases F with i | i | i | i
    · skip
      refine op_loadA rfl rfl rfl rfl (hc2) ?_
      refine op_alloc (cs := [_, _]) rfl rfl fun b10 hb10 => ?_
      refine wp_norm [_, _, _, _] rfl ?_
      refine op_storeP 3 (v := .agg #[.int .i64 _, .int .i64 _]) (vs := [_, _]) (c' := [_, _]) rfl rfl rfl rfl rfl rfl rfl rfl rfl ?_
      refine wp_norm [_, _, _, _] rfl ?_
      refine xp_seq ?_
      refine xp_region rfl ?_
      refine op_pure (pv_fieldAddr rfl rfl rfl rfl 0 rfl) ?_
      refine op_loadP 3 (v := .int .i64 _) rfl rfl rfl rfl ?_
      refine xp_block ?_
      refine xp_seq ?_
      refine xp_region rfl ?_
      refine op_pure (pv_of (v := .bool _) rfl) ?_
      refine op_pure (pv_assign (v := .bool _) rfl) ?_
      refine xp_condF rfl (rfl) ?_
      refine xp_seq ?_
      refine xp_region rfl ?_
      refine op_pure (pv_of (v := .bool _) rfl) ?_
      refine op_pure (pv_assign (v := .bool _) rfl) ?_
      refine xp_condF rfl (rfl) ?_
      refine xp_skip ?_
      refine xp_region rfl ?_
      refine op_pure (pv_move (v := .int .i64 _) rfl) ?_
      refine op_pure (pv_arith rfl (by omega)) ?_
      refine op_pure (pv_assign (v := .int .i64 _) rfl) ?_
      refine ⟨(k + 1, o, AQ1, cQ1, AL1, cL1), ⟨intE (by omega), trivial⟩, rfl, rfl, E_k, fun h3 E3 => ⟨⟨by omega, hsc.symm⟩, (J2.ext (Ext.refl _)).ext E3, (J3.ext (Ext.refl _)).ext E3, J4, J5⟩, by first | omega | (dsimp only; omega), ?_⟩
      repeat (first | exact off_base _ _ _ | refine off_upd (by decide) ?_ | refine off_updL rfl ?_ | refine off_mix rfl ?_)
    · skip
      refine op_loadA rfl rfl rfl rfl (hc2) ?_
      refine op_alloc (cs := [_, _]) rfl rfl fun b10_1 hb10_1 => ?_
      refine wp_norm [_, _, _, _] rfl ?_
      refine op_storeP 3 (v := .agg #[.int .i64 _, .int .i64 _]) (vs := [_, _]) (c' := [_, _]) rfl rfl rfl rfl rfl rfl rfl rfl rfl ?_
      refine wp_norm [_, _, _, _] rfl ?_
      refine xp_seq ?_
      refine xp_region rfl ?_
      refine op_pure (pv_fieldAddr rfl rfl rfl rfl 0 rfl) ?_
      refine op_loadP 3 (v := .int .i64 _) rfl rfl rfl rfl ?_
      refine xp_block ?_
      refine xp_seq ?_
      refine xp_region rfl ?_
      refine op_pure (pv_of (v := .bool _) rfl) ?_
      refine op_pure (pv_assign (v := .bool _) rfl) ?_
      refine xp_condF rfl (rfl) ?_
      refine xp_seq ?_
      refine xp_region rfl ?_
      refine op_pure (pv_of (v := .bool _) rfl) ?_
      refine op_pure (pv_assign (v := .bool _) rfl) ?_
      refine xp_condF rfl (rfl) ?_
      refine xp_skip ?_
      refine xp_region rfl ?_
      refine op_pure (pv_move (v := .int .i64 _) rfl) ?_
      refine op_pure (pv_arith rfl (by omega)) ?_
      refine op_pure (pv_assign (v := .int .i64 _) rfl) ?_
      refine ⟨(k + 1, o, AQ1, cQ1, AL1, cL1), ⟨intE (by omega), trivial⟩, rfl, rfl, E_k, fun h3 E3 => ⟨⟨by omega, hsc.symm⟩, (J2.ext (Ext.refl _)).ext E3, (J3.ext (Ext.refl _)).ext E3, J4, J5⟩, by first | omega | (dsimp only; omega), ?_⟩
      repeat (first | exact off_base _ _ _ | refine off_upd (by decide) ?_ | refine off_updL rfl ?_ | refine off_mix rfl ?_)
    · skip
      have hil : i < o.pins.length := by rw [J6]; exact own_pin_lt hasc hok
      have hol : o.pins.length ≤ m.pins.length := by rw [J6]; exact (own_mem (m := m) (fs := fs.drop (fs.length - k))).2.2.1
      refine op_loadA rfl rfl rfl rfl (hc2) ?_
      refine op_alloc (cs := [_, _]) rfl rfl fun b10_2 hb10_2 => ?_
      refine wp_norm [_, _, _, _] rfl ?_
      refine op_storeP 3 (v := .agg #[.int .i64 _, .int .i64 _]) (vs := [_, _]) (c' := [_, _]) rfl rfl rfl rfl rfl rfl rfl rfl rfl ?_
      refine wp_norm [_, _, _, _] rfl ?_
      refine xp_seq ?_
      refine xp_region rfl ?_
      refine op_pure (pv_fieldAddr rfl rfl rfl rfl 0 rfl) ?_
      refine op_loadP 3 (v := .int .i64 _) rfl rfl rfl rfl ?_
      refine xp_block ?_
      refine xp_seq ?_
      refine xp_region rfl ?_
      refine op_pure (pv_of (v := .bool _) rfl) ?_
      refine op_pure (pv_assign (v := .bool _) rfl) ?_
      refine xp_condT rfl (rfl) ?_
      refine xp_region rfl ?_
      refine op_loadPA 2 (vs := [.int .i64 _, .int .i64 _, .int .i64 _, .int .i64 _, .int .i64 _, .slice _ _ _, .slice _ _ _, .slice _ _ _, .slice _ _ _]) rfl rfl rfl rfl rfl ?_
      refine op_pure (pv_fieldAddr rfl rfl rfl rfl 1 rfl) ?_
      refine op_loadP 3 (v := .int .i64 _) rfl rfl rfl rfl ?_
      refine op_fn (caps := []) (vs := [.agg #[.int .i64 _, .int .i64 _, .int .i64 _, .int .i64 _, .int .i64 _, .slice _ _ _, .slice _ _ _, .slice _ _ _, .slice _ _ _], .int .i64 _]) rfl rfl rfl (WithoutPinR_ok o i hil (by omega) AB AQ1 AL1 AW cB cQ1 cL1 cW J4 h_k (J2.ext (Ext.refl _))) ?_
      rintro _ h2 E2 ⟨A2, c2, rfl, R2, C2⟩
      refine op_storeP 2 (v := .agg #[.int .i64 _, .int .i64 _, .int .i64 _, .int .i64 _, .int .i64 _, .slice _ _ _, .slice _ _ _, .slice _ _ _, .slice _ _ _]) (vs := [_, _, _, _, _, _, _, _, _]) (c' := [_, _, _, _, _, _, _, _, _]) rfl rfl rfl rfl rfl rfl rfl rfl rfl ?_
      refine wp_norm [_, _, _, _] rfl ?_
      refine xp_region rfl ?_
      refine op_pure (pv_move (v := .int .i64 _) rfl) ?_
      refine op_pure (pv_arith rfl (by omega)) ?_
      refine op_pure (pv_assign (v := .int .i64 _) rfl) ?_
      refine ⟨(k + 1, { o with pins := o.pins.eraseIdx i }, A2, c2, AL1, cL1), ⟨intE (by omega), trivial⟩, rfl, rfl, (Ext.trans E_k E2), fun h3 E3 => ⟨⟨by omega, hsc.symm⟩, (R2.ext (Ext.refl _)).ext E3, (J3.ext E2).ext E3, C2, J5⟩, by first | omega | (dsimp only; omega), ?_⟩
      repeat (first | exact off_base _ _ _ | refine off_upd (by decide) ?_ | refine off_updL rfl ?_ | refine off_mix rfl ?_)
    · skip
      have hil : i < o.links.length := by rw [J6]; exact own_link_lt hasc hok
      have hol : o.links.length ≤ m.links.length := by rw [J6]; exact (own_mem (m := m) (fs := fs.drop (fs.length - k))).2.2.2
      refine op_loadA rfl rfl rfl rfl (hc2) ?_
      refine op_alloc (cs := [_, _]) rfl rfl fun b10_3 hb10_3 => ?_
      refine wp_norm [_, _, _, _] rfl ?_
      refine op_storeP 3 (v := .agg #[.int .i64 _, .int .i64 _]) (vs := [_, _]) (c' := [_, _]) rfl rfl rfl rfl rfl rfl rfl rfl rfl ?_
      refine wp_norm [_, _, _, _] rfl ?_
      refine xp_seq ?_
      refine xp_region rfl ?_
      refine op_pure (pv_fieldAddr rfl rfl rfl rfl 0 rfl) ?_
      refine op_loadP 3 (v := .int .i64 _) rfl rfl rfl rfl ?_
      refine xp_block ?_
      refine xp_seq ?_
      refine xp_region rfl ?_
      refine op_pure (pv_of (v := .bool _) rfl) ?_
      refine op_pure (pv_assign (v := .bool _) rfl) ?_
      refine xp_condF rfl (rfl) ?_
      refine xp_seq ?_
      refine xp_region rfl ?_
      refine op_pure (pv_of (v := .bool _) rfl) ?_
      refine op_pure (pv_assign (v := .bool _) rfl) ?_
      refine xp_condT rfl (rfl) ?_
      refine xp_region rfl ?_
      refine op_loadPA 2 (vs := [.int .i64 _, .int .i64 _, .int .i64 _, .int .i64 _, .int .i64 _, .slice _ _ _, .slice _ _ _, .slice _ _ _, .slice _ _ _]) rfl rfl rfl rfl rfl ?_
      refine op_pure (pv_fieldAddr rfl rfl rfl rfl 1 rfl) ?_
      refine op_loadP 3 (v := .int .i64 _) rfl rfl rfl rfl ?_
      refine op_fn (caps := []) (vs := [.agg #[.int .i64 _, .int .i64 _, .int .i64 _, .int .i64 _, .int .i64 _, .slice _ _ _, .slice _ _ _, .slice _ _ _, .slice _ _ _], .int .i64 _]) rfl rfl rfl (WithoutLinkR_ok o i hil (by omega) AB AQ1 AL1 AW cB cQ1 cL1 cW J5 h_k (J3.ext (Ext.refl _))) ?_
      rintro _ h2 E2 ⟨A2, c2, rfl, R2, C2⟩
      refine op_storeP 2 (v := .agg #[.int .i64 _, .int .i64 _, .int .i64 _, .int .i64 _, .int .i64 _, .slice _ _ _, .slice _ _ _, .slice _ _ _, .slice _ _ _]) (vs := [_, _, _, _, _, _, _, _, _]) (c' := [_, _, _, _, _, _, _, _, _]) rfl rfl rfl rfl rfl rfl rfl rfl rfl ?_
      refine wp_norm [_, _, _, _] rfl ?_
      refine xp_region rfl ?_
      refine op_pure (pv_move (v := .int .i64 _) rfl) ?_
      refine op_pure (pv_arith rfl (by omega)) ?_
      refine op_pure (pv_assign (v := .int .i64 _) rfl) ?_
      refine ⟨(k + 1, { o with links := o.links.eraseIdx i }, AQ1, cQ1, A2, c2), ⟨intE (by omega), trivial⟩, rfl, rfl, (Ext.trans E_k E2), fun h3 E3 => ⟨⟨by omega, hsc.symm⟩, (J2.ext E2).ext E3, (R2.ext (Ext.refl _)).ext E3, J4, C2⟩, by first | omega | (dsimp only; omega), ?_⟩
      repeat (first | exact off_base _ _ _ | refine off_upd (by decide) ?_ | refine off_updL rfl ?_ | refine off_mix rfl ?_)
  · skip
    have hke : k = fs.length := by have := of_decide_eq_false hk; omega
    rw [hke, ownK_all] at J6
    subst J6
    obtain ⟨s1, s2, s3, s4, s5, s6, s7⟩ := own_same m fs
    have hX := own_sounds M H hfa
    obtain ⟨x, hx0⟩ : ∃ x, x = soundsM (brkM m fs) a m.travel := ⟨_, rfl⟩
    have L1 := soundsR_ok (ownR m fs) (own_mok M fs) a (fit_of (own_mok M fs) (own_hok H fs)) AB AQ1 AL1 AW HA OA cB cQ1 cL1 cW cH cO
    rw [s4, hX, ← hx0] at L1
    have RB1 := RM.b.ext (Ext.trans E1 E_k)
    have RW1 := RM.w.ext (Ext.trans E1 E_k)
    rw [← s6] at RB1
    rw [← s7] at RW1
    refine xp_exit ?_
    refine xp_seq ?_
    refine xp_region rfl ?_
    refine op_loadPA 2 (vs := [.int .i64 _, .int .i64 _, .int .i64 _, .int .i64 _, .int .i64 _, .slice _ _ _, .slice _ _ _, .slice _ _ _, .slice _ _ _]) rfl rfl rfl rfl rfl ?_
    refine op_loadPA 1 (vs := [.slice _ _ _, .slice _ _ _]) rfl rfl rfl rfl rfl ?_
    refine op_fn (caps := []) (vs := [.agg _, .agg _]) rfl rfl rfl (L1 h_k ⟨RB1, J2.ext (Ext.refl _), J3.ext (Ext.refl _), RW1⟩ (RH.ext (Ext.trans E1 E_k))) ?_
    rintro _ h4 E4 ⟨A4, c4, rfl, R4⟩
    have bb := brk_bits mlv.2 hfo
    have hx6 : x < 2 ^ 6 := by
      rw [hx0]
      exact Nat.lt_of_lt_of_le (sounds_lt (brkM m fs) a m.travel) (Nat.pow_le_pow_right (by omega) (by show m.levers.toNat ≤ 6; omega))
    obtain ⟨sK, hsK⟩ : ∃ sK : Nat → Nat, ∀ k, sK k = x ||| (brkF m (fs.take k)).stay := ⟨fun k => x ||| (brkF m (fs.take k)).stay, fun _ => rfl⟩
    have hs0 : sK 0 = x := (hsK 0).trans (Nat.or_zero x)
    have hsS : ∀ k (hk : k < fs.length), sK (k + 1) = x ||| (brkS m.travel (brkF m (fs.take k)) fs[k]).stay := fun k hk => by rw [hsK, brkF_take hk]
    obtain ⟨y, hy⟩ : ∃ y, y = sK l.length := ⟨_, rfl⟩
    have hyv : y = x ||| (brkF m fs).stay := by rw [hy, hsK, ← hfl, List.take_length]
    have hy6 : y < 2 ^ 6 := by rw [hyv]; exact Nat.or_lt_two_pow hx6 bb.1
    obtain ⟨dK, hdK⟩ : ∃ dK : Nat → Nat, ∀ k, dK k = y &&& (2 ^ 64 - 1 - (brkF m (fs.take k)).dumb) := ⟨fun k => y &&& (2 ^ 64 - 1 - (brkF m (fs.take k)).dumb), fun _ => rfl⟩
    have hd0 : dK 0 = y := (hdK 0).trans (and_mask (by omega))
    have hdS : ∀ k (hk : k < fs.length), dK (k + 1) = y &&& (2 ^ 64 - 1 - (brkS m.travel (brkF m (fs.take k)) fs[k]).dumb) := fun k hk => by rw [hdK, brkF_take hk]
    have hdv : dK l.length = soundsB m fs a := by rw [hdK, ← hfl, List.take_length, hyv, hx0]; rfl
    have hdb : ∀ k, (brkF m (fs.take k)).dumb < 2 ^ 6 := fun k => (brk_bits mlv.2 (fun f hf => hfo f (take_mem hf))).2
    rw [← hdv]
    refine op_pure (pv_assign (v := .slice _ _ _) rfl) ?_
    refine xp_seq ?_
    refine xp_seq ?_
    refine xp_region rfl ?_
    refine op_pure (pv_assign (v := .int .i64 _) rfl) ?_
    refine xp_block ?_
    refine xp_loopB [11, 12, 13, 50, 51, 52, 53, 54, 55, 56, 57, 58, 59, 60, 61, 62, 63, 64, 65, 66, 67, 68, 69, 70, 71, 72, 73, 74, 75, 76] 3 (α := Nat × Option Addr × Nat) (fun ⟨q, VA, cV⟩ => [(12, .int .i64 q), (11, .slice VA (listN (sK q) 6).length cV)]) (fun ⟨q, VA, cV⟩ => _) (fun ⟨q, VA, cV⟩ h_q => q ≤ l.length ∧ Row h_q 1 intC VA (listN (sK q) 6)) (fun ⟨q, VA, cV⟩ => l.length - q) ((0, A4, c4)) ⟨rfl, slcE (lenE hs0.symm), trivial⟩ (rfl) (⟨Nat.zero_le _, rowE hs0.symm (R4.ext (Ext.refl _))⟩) ?_
    rintro ⟨q, VA, cV⟩ T2 h_q E_q J_q
    refine goes_norm [_, _, _] rfl ?_
    obtain ⟨Q1, Q2⟩ := J_q
    refine xp_seq ?_
    refine xp_seq ?_
    refine xp_region rfl ?_
    refine op_pure (pv_move (v := .int .i64 _) rfl) ?_
    refine op_pure (pv_move (v := .slice _ _ _) rfl) ?_
    refine op_pure (pv_len rfl rfl) ?_
    refine op_pure (pv_of (v := .bool _) rfl) ?_
    refine xp_cond rfl (fun hq => ?_) (fun hq => ?_)
    · skip
      have hql : q < l.length := ltI hq
      have hqf : q < fs.length := by omega
      obtain ⟨hx, hfe⟩ := hfx q hql hqf
      have hl0 := hls _ (List.getElem_mem hql)
      have hsc := hsS q hqf
      have hok := hfo _ (List.getElem_mem hqf)
      rw [hfe] at hsc hok
      have hll2 := listN_len (sK q) 6
      obtain ⟨g, off, hA, hc⟩ := (RN.ext (Ext.trans (Ext.trans (Ext.trans E1 E_k) E4) E_q)).at (by omega) hql
      obtain ⟨g2, off2, hA2, hc2⟩ := (RF.ext (Ext.trans (Ext.trans E_k E4) E_q)).at (by omega) hx
      obtain ⟨F, hF⟩ : ∃ F, F = (faultsM m)[l[q].toNat] := ⟨_, rfl⟩
      rw [← hF] at hc2 hsc hok
      refine xp_skip ?_
      refine xp_seq ?_
      refine xp_block ?_
      refine xp_seq ?_
      refine xp_region rfl ?_
      refine op_pure (pv_move (v := .slice _ _ _) rfl) ?_
      refine op_pure (pv_move (v := .slice _ _ _) rfl) ?_
      refine op_pure (pv_move (v := .int .i64 _) rfl) ?_
      refine op_pure (pv_indexE rfl hA rfl rfl rfl (by omega) (by omega)) ?_
      refine op_load (v := .int .i64 _) rfl rfl ((hc) 0 _ rfl) ?_
      refine op_pure (pv_indexE (m := 2) rfl hA2 rfl rfl rfl (by omega) (by omega)) ?_
      rcases F with i | i | i | i
      · skip
        have hsc : sK (q + 1) = sK q := hsc.trans (hsK q).symm
        refine op_loadA rfl rfl rfl rfl (hc2) ?_
        refine op_alloc (cs := [_, _]) rfl rfl fun b13 hb13 => ?_
        refine wp_norm [_, _, _, _] rfl ?_
        refine op_storeP 3 (v := .agg #[.int .i64 _, .int .i64 _]) (vs := [_, _]) (c' := [_, _]) rfl rfl rfl rfl rfl rfl rfl rfl rfl ?_
        refine wp_norm [_, _, _, _] rfl ?_
        refine xp_seq ?_
        refine xp_region rfl ?_
        refine op_pure (pv_fieldAddr rfl rfl rfl rfl 0 rfl) ?_
        refine op_loadP 3 (v := .int .i64 _) rfl rfl rfl rfl ?_
        refine op_pure (pv_of (v := .bool _) rfl) ?_
        refine op_pure (pv_move (v := .bool _) rfl) ?_
        refine guard_no rfl rfl ?_
        refine guard_no rfl rfl ?_
        refine guard_no rfl rfl ?_
        refine guard_no rfl rfl ?_
        refine guard_no rfl rfl ?_
        refine op_pure (pv_pickF rfl rfl (v := .bool _) rfl) ?_
        refine xp_condF rfl (rfl) ?_
        refine xp_skip ?_
        refine xp_region rfl ?_
        refine op_pure (pv_move (v := .int .i64 _) rfl) ?_
        refine op_pure (pv_arith rfl (by omega)) ?_
        refine op_pure (pv_assign (v := .int .i64 _) rfl) ?_
        refine ⟨(q + 1, VA, cV), ⟨rfl, slcE (lenE hsc.symm), trivial⟩, rfl, rfl, E_q, fun h3 E3 => ⟨hql, rowE hsc.symm ((Q2.ext (Ext.refl _)).ext E3)⟩, by first | omega | (dsimp only; omega), ?_⟩
        repeat (first | exact off_base _ _ _ | refine off_upd (by decide) ?_ | refine off_updL rfl ?_ | refine off_mix rfl ?_)
      · skip
        have hi6 : i < 6 := by have : (i : Int) < m.levers := hok; omega
        have hsc : sK (q + 1) = sK q ||| 2 ^ i := by rw [hsc, hsK q, Nat.or_assoc]; rfl
        refine op_loadA rfl rfl rfl rfl (hc2) ?_
        refine op_alloc (cs := [_, _]) rfl rfl fun b13_1 hb13_1 => ?_
        refine wp_norm [_, _, _, _] rfl ?_
        refine op_storeP 3 (v := .agg #[.int .i64 _, .int .i64 _]) (vs := [_, _]) (c' := [_, _]) rfl rfl rfl rfl rfl rfl rfl rfl rfl ?_
        refine wp_norm [_, _, _, _] rfl ?_
        refine xp_seq ?_
        refine xp_region rfl ?_
        refine op_pure (pv_fieldAddr rfl rfl rfl rfl 0 rfl) ?_
        refine op_loadP 3 (v := .int .i64 _) rfl rfl rfl rfl ?_
        refine op_pure (pv_of (v := .bool _) rfl) ?_
        refine op_pure (pv_move (v := .bool _) rfl) ?_
        refine guard_yes rfl rfl ?_
        refine op_pure (pv_move (v := .slice _ _ _) rfl) ?_
        refine guard_yes rfl rfl ?_
        refine op_pure (pv_fieldAddr rfl rfl rfl rfl 1 rfl) ?_
        refine guard_yes rfl rfl ?_
        refine op_loadP 3 (v := .int .i64 _) rfl rfl rfl rfl ?_
        refine guard_yes rfl rfl ?_
        refine op_fn (caps := []) (vs := [.slice _ _ _, .int .i64 _]) rfl rfl rfl (hasR_ok (listN (sK q) 6) i VA cV h_q (Q2.ext (Ext.refl _)) (by omega)) ?_
        rintro _ h5 E5 rfl
        rw [has_bit hi6]
        refine guard_yes rfl rfl ?_
        refine op_pure (pv_of (v := .bool _) rfl) ?_
        refine op_pure (pv_pickT rfl rfl (v := .bool _) rfl) ?_
        refine xp_cond rfl (fun hb => ?_) (fun hb => ?_)
        · skip
          have hb' : (sK q).testBit i = false := by simpa using hb
          refine xp_region rfl ?_
          refine op_pure (pv_move (v := .slice _ _ _) rfl) ?_
          refine op_pure (pv_fieldAddr rfl rfl rfl rfl 1 rfl) ?_
          refine op_loadP 3 (v := .int .i64 _) rfl rfl rfl rfl ?_
          refine op_fn (caps := []) (vs := [.slice _ _ _, .int .i64 _]) rfl rfl rfl (withR_ok (listN (sK q) 6) i VA cV h5 (Q2.ext E5) (by omega)) ?_
          rintro _ h6 E6 ⟨A6, c6, rfl, R6⟩
          rw [with_list hi6 hb'] at R6 ⊢
          refine op_pure (pv_assign (v := .slice _ _ _) rfl) ?_
          refine xp_region rfl ?_
          refine op_pure (pv_move (v := .int .i64 _) rfl) ?_
          refine op_pure (pv_arith rfl (by omega)) ?_
          refine op_pure (pv_assign (v := .int .i64 _) rfl) ?_
          refine ⟨(q + 1, A6, c6), ⟨rfl, slcE (lenE hsc.symm), trivial⟩, rfl, rfl, (Ext.trans (Ext.trans E_q E5) E6), fun h3 E3 => ⟨hql, rowE hsc.symm ((R6.ext (Ext.refl _)).ext E3)⟩, by first | omega | (dsimp only; omega), ?_⟩
          repeat (first | exact off_base _ _ _ | refine off_upd (by decide) ?_ | refine off_updL rfl ?_ | refine off_mix rfl ?_)
        · skip
          have hb' : (sK q).testBit i = true := by simpa using hb
          have hsc : sK (q + 1) = sK q := hsc.trans (with_had hb')
          refine xp_skip ?_
          refine xp_region rfl ?_
          refine op_pure (pv_move (v := .int .i64 _) rfl) ?_
          refine op_pure (pv_arith rfl (by omega)) ?_
          refine op_pure (pv_assign (v := .int .i64 _) rfl) ?_
          refine ⟨(q + 1, VA, cV), ⟨rfl, slcE (lenE hsc.symm), trivial⟩, rfl, rfl, (Ext.trans E_q E5), fun h3 E3 => ⟨hql, rowE hsc.symm ((Q2.ext E5).ext E3)⟩, by first | omega | (dsimp only; omega), ?_⟩
          repeat (first | exact off_base _ _ _ | refine off_upd (by decide) ?_ | refine off_updL rfl ?_ | refine off_mix rfl ?_)
      · skip
        have hsc : sK (q + 1) = sK q := hsc.trans (hsK q).symm
        refine op_loadA rfl rfl rfl rfl (hc2) ?_
        refine op_alloc (cs := [_, _]) rfl rfl fun b13_2 hb13_2 => ?_
        refine wp_norm [_, _, _, _] rfl ?_
        refine op_storeP 3 (v := .agg #[.int .i64 _, .int .i64 _]) (vs := [_, _]) (c' := [_, _]) rfl rfl rfl rfl rfl rfl rfl rfl rfl ?_
        refine wp_norm [_, _, _, _] rfl ?_
        refine xp_seq ?_
        refine xp_region rfl ?_
        refine op_pure (pv_fieldAddr rfl rfl rfl rfl 0 rfl) ?_
        refine op_loadP 3 (v := .int .i64 _) rfl rfl rfl rfl ?_
        refine op_pure (pv_of (v := .bool _) rfl) ?_
        refine op_pure (pv_move (v := .bool _) rfl) ?_
        refine guard_no rfl rfl ?_
        refine guard_no rfl rfl ?_
        refine guard_no rfl rfl ?_
        refine guard_no rfl rfl ?_
        refine guard_no rfl rfl ?_
        refine op_pure (pv_pickF rfl rfl (v := .bool _) rfl) ?_
        refine xp_condF rfl (rfl) ?_
        refine xp_skip ?_
        refine xp_region rfl ?_
        refine op_pure (pv_move (v := .int .i64 _) rfl) ?_
        refine op_pure (pv_arith rfl (by omega)) ?_
        refine op_pure (pv_assign (v := .int .i64 _) rfl) ?_
        refine ⟨(q + 1, VA, cV), ⟨rfl, slcE (lenE hsc.symm), trivial⟩, rfl, rfl, E_q, fun h3 E3 => ⟨hql, rowE hsc.symm ((Q2.ext (Ext.refl _)).ext E3)⟩, by first | omega | (dsimp only; omega), ?_⟩
        repeat (first | exact off_base _ _ _ | refine off_upd (by decide) ?_ | refine off_updL rfl ?_ | refine off_mix rfl ?_)
      · skip
        have hsc : sK (q + 1) = sK q := hsc.trans (hsK q).symm
        refine op_loadA rfl rfl rfl rfl (hc2) ?_
        refine op_alloc (cs := [_, _]) rfl rfl fun b13_3 hb13_3 => ?_
        refine wp_norm [_, _, _, _] rfl ?_
        refine op_storeP 3 (v := .agg #[.int .i64 _, .int .i64 _]) (vs := [_, _]) (c' := [_, _]) rfl rfl rfl rfl rfl rfl rfl rfl rfl ?_
        refine wp_norm [_, _, _, _] rfl ?_
        refine xp_seq ?_
        refine xp_region rfl ?_
        refine op_pure (pv_fieldAddr rfl rfl rfl rfl 0 rfl) ?_
        refine op_loadP 3 (v := .int .i64 _) rfl rfl rfl rfl ?_
        refine op_pure (pv_of (v := .bool _) rfl) ?_
        refine op_pure (pv_move (v := .bool _) rfl) ?_
        refine guard_no rfl rfl ?_
        refine guard_no rfl rfl ?_
        refine guard_no rfl rfl ?_
        refine guard_no rfl rfl ?_
        refine guard_no rfl rfl ?_
        refine op_pure (pv_pickF rfl rfl (v := .bool _) rfl) ?_
        refine xp_condF rfl (rfl) ?_
        refine xp_skip ?_
        refine xp_region rfl ?_
        refine op_pure (pv_move (v := .int .i64 _) rfl) ?_
        refine op_pure (pv_arith rfl (by omega)) ?_
        refine op_pure (pv_assign (v := .int .i64 _) rfl) ?_
        refine ⟨(q + 1, VA, cV), ⟨rfl, slcE (lenE hsc.symm), trivial⟩, rfl, rfl, E_q, fun h3 E3 => ⟨hql, rowE hsc.symm ((Q2.ext (Ext.refl _)).ext E3)⟩, by first | omega | (dsimp only; omega), ?_⟩
        repeat (first | exact off_base _ _ _ | refine off_upd (by decide) ?_ | refine off_updL rfl ?_ | refine off_mix rfl ?_)
    · skip
      have hqe : q = l.length := by have := geI hq; omega
      subst hqe
      have hyd : sK l.length = dK 0 := hy.symm.trans hd0.symm
      refine xp_exit ?_
      refine xp_seq ?_
      refine xp_seq ?_
      refine xp_region rfl ?_
      refine op_pure (pv_assign (v := .int .i64 _) rfl) ?_
      refine xp_block ?_
      refine xp_loopB [11, 14, 15, 77, 78, 79, 80, 81, 82, 83, 84, 85, 86, 87, 88, 89, 90, 91, 92, 93, 94, 95, 96] 3 (α := Nat × Option Addr × Nat) (fun ⟨z, VB, cV2⟩ => [(14, .int .i64 z), (11, .slice VB (listN (dK z) 6).length cV2)]) (fun ⟨z, VB, cV2⟩ => _) (fun ⟨z, VB, cV2⟩ h_z => z ≤ l.length ∧ Row h_z 1 intC VB (listN (dK z) 6)) (fun ⟨z, VB, cV2⟩ => l.length - z) ((0, VA, cV)) ⟨rfl, slcE (lenE hyd), trivial⟩ (rfl) (⟨Nat.zero_le _, rowE hyd (Q2.ext (Ext.refl _))⟩) ?_
      rintro ⟨z, VB, cV2⟩ T3 h_z E_z J_z
      refine goes_norm [_, _, _] rfl ?_
      obtain ⟨Z1, Z2⟩ := J_z
      refine xp_seq ?_
      refine xp_seq ?_
      refine xp_region rfl ?_
      refine op_pure (pv_move (v := .int .i64 _) rfl) ?_
      refine op_pure (pv_move (v := .slice _ _ _) rfl) ?_
      refine op_pure (pv_len rfl rfl) ?_
      refine op_pure (pv_of (v := .bool _) rfl) ?_
      refine xp_cond rfl (fun hz => ?_) (fun hz => ?_)
      · skip
        have hzl : z < l.length := ltI hz
        have hzf : z < fs.length := by omega
        obtain ⟨hx, hfe⟩ := hfx z hzl hzf
        have hl0 := hls _ (List.getElem_mem hzl)
        have hsc := hdS z hzf
        have hok := hfo _ (List.getElem_mem hzf)
        rw [hfe] at hsc hok
        have hll2 := listN_len (dK z) 6
        obtain ⟨g, off, hA, hc⟩ := (RN.ext (Ext.trans (Ext.trans (Ext.trans (Ext.trans E1 E_k) E4) E_q) E_z)).at (by omega) hzl
        obtain ⟨g2, off2, hA2, hc2⟩ := (RF.ext (Ext.trans (Ext.trans (Ext.trans E_k E4) E_q) E_z)).at (by omega) hx
        obtain ⟨F, hF⟩ : ∃ F, F = (faultsM m)[l[z].toNat] := ⟨_, rfl⟩
        rw [← hF] at hc2 hsc hok
        refine xp_skip ?_
        refine xp_seq ?_
        refine xp_block ?_
        refine xp_seq ?_
        refine xp_region rfl ?_
        refine op_pure (pv_move (v := .slice _ _ _) rfl) ?_
        refine op_pure (pv_move (v := .slice _ _ _) rfl) ?_
        refine op_pure (pv_move (v := .int .i64 _) rfl) ?_
        refine op_pure (pv_indexE rfl hA rfl rfl rfl (by omega) (by omega)) ?_
        refine op_load (v := .int .i64 _) rfl rfl ((hc) 0 _ rfl) ?_
        refine op_pure (pv_indexE (m := 2) rfl hA2 rfl rfl rfl (by omega) (by omega)) ?_
        rcases F with i | i | i | i
        · skip
          have hi6 : i < 6 := by have : (i : Int) < m.levers := hok; omega
          have hwl : (listN (dK z) 6).filter (fun u => u != (i : Int)) = listN (dK (z + 1)) 6 := by rw [hsc, hdK z]; exact without_list (hdb z) hi6
          refine op_loadA rfl rfl rfl rfl (hc2) ?_
          refine op_alloc (cs := [_, _]) rfl rfl fun b15 hb15 => ?_
          refine wp_norm [_, _, _, _] rfl ?_
          refine op_storeP 3 (v := .agg #[.int .i64 _, .int .i64 _]) (vs := [_, _]) (c' := [_, _]) rfl rfl rfl rfl rfl rfl rfl rfl rfl ?_
          refine wp_norm [_, _, _, _] rfl ?_
          refine xp_seq ?_
          refine xp_region rfl ?_
          refine op_pure (pv_fieldAddr rfl rfl rfl rfl 0 rfl) ?_
          refine op_loadP 3 (v := .int .i64 _) rfl rfl rfl rfl ?_
          refine op_pure (pv_of (v := .bool _) rfl) ?_
          refine xp_condT rfl (rfl) ?_
          refine xp_region rfl ?_
          refine op_pure (pv_move (v := .slice _ _ _) rfl) ?_
          refine op_pure (pv_fieldAddr rfl rfl rfl rfl 1 rfl) ?_
          refine op_loadP 3 (v := .int .i64 _) rfl rfl rfl rfl ?_
          refine op_fn (caps := []) (vs := [.slice _ _ _, .int .i64 _]) rfl rfl rfl (withoutR_ok (listN (dK z) 6) i VB cV2 h_z (Z2.ext (Ext.refl _)) (by omega)) ?_
          rintro _ h6 E6 ⟨A6, c6, rfl, R6⟩
          rw [hwl] at R6 ⊢
          refine op_pure (pv_assign (v := .slice _ _ _) rfl) ?_
          refine xp_region rfl ?_
          refine op_pure (pv_move (v := .int .i64 _) rfl) ?_
          refine op_pure (pv_arith rfl (by omega)) ?_
          refine op_pure (pv_assign (v := .int .i64 _) rfl) ?_
          refine ⟨(z + 1, A6, c6), ⟨rfl, rfl, trivial⟩, rfl, rfl, (Ext.trans E_z E6), fun h3 E3 => ⟨hzl, (R6.ext (Ext.refl _)).ext E3⟩, by first | omega | (dsimp only; omega), ?_⟩
          repeat (first | exact off_base _ _ _ | refine off_upd (by decide) ?_ | refine off_updL rfl ?_ | refine off_mix rfl ?_)
        · skip
          have hsc : dK (z + 1) = dK z := hsc.trans (hdK z).symm
          refine op_loadA rfl rfl rfl rfl (hc2) ?_
          refine op_alloc (cs := [_, _]) rfl rfl fun b15_1 hb15_1 => ?_
          refine wp_norm [_, _, _, _] rfl ?_
          refine op_storeP 3 (v := .agg #[.int .i64 _, .int .i64 _]) (vs := [_, _]) (c' := [_, _]) rfl rfl rfl rfl rfl rfl rfl rfl rfl ?_
          refine wp_norm [_, _, _, _] rfl ?_
          refine xp_seq ?_
          refine xp_region rfl ?_
          refine op_pure (pv_fieldAddr rfl rfl rfl rfl 0 rfl) ?_
          refine op_loadP 3 (v := .int .i64 _) rfl rfl rfl rfl ?_
          refine op_pure (pv_of (v := .bool _) rfl) ?_
          refine xp_condF rfl (rfl) ?_
          refine xp_skip ?_
          refine xp_region rfl ?_
          refine op_pure (pv_move (v := .int .i64 _) rfl) ?_
          refine op_pure (pv_arith rfl (by omega)) ?_
          refine op_pure (pv_assign (v := .int .i64 _) rfl) ?_
          refine ⟨(z + 1, VB, cV2), ⟨rfl, slcE (lenE hsc.symm), trivial⟩, rfl, rfl, E_z, fun h3 E3 => ⟨hzl, rowE hsc.symm ((Z2.ext (Ext.refl _)).ext E3)⟩, by first | omega | (dsimp only; omega), ?_⟩
          repeat (first | exact off_base _ _ _ | refine off_upd (by decide) ?_ | refine off_updL rfl ?_ | refine off_mix rfl ?_)
        · skip
          have hsc : dK (z + 1) = dK z := hsc.trans (hdK z).symm
          refine op_loadA rfl rfl rfl rfl (hc2) ?_
          refine op_alloc (cs := [_, _]) rfl rfl fun b15_2 hb15_2 => ?_
          refine wp_norm [_, _, _, _] rfl ?_
          refine op_storeP 3 (v := .agg #[.int .i64 _, .int .i64 _]) (vs := [_, _]) (c' := [_, _]) rfl rfl rfl rfl rfl rfl rfl rfl rfl ?_
          refine wp_norm [_, _, _, _] rfl ?_
          refine xp_seq ?_
          refine xp_region rfl ?_
          refine op_pure (pv_fieldAddr rfl rfl rfl rfl 0 rfl) ?_
          refine op_loadP 3 (v := .int .i64 _) rfl rfl rfl rfl ?_
          refine op_pure (pv_of (v := .bool _) rfl) ?_
          refine xp_condF rfl (rfl) ?_
          refine xp_skip ?_
          refine xp_region rfl ?_
          refine op_pure (pv_move (v := .int .i64 _) rfl) ?_
          refine op_pure (pv_arith rfl (by omega)) ?_
          refine op_pure (pv_assign (v := .int .i64 _) rfl) ?_
          refine ⟨(z + 1, VB, cV2), ⟨rfl, slcE (lenE hsc.symm), trivial⟩, rfl, rfl, E_z, fun h3 E3 => ⟨hzl, rowE hsc.symm ((Z2.ext (Ext.refl _)).ext E3)⟩, by first | omega | (dsimp only; omega), ?_⟩
          repeat (first | exact off_base _ _ _ | refine off_upd (by decide) ?_ | refine off_updL rfl ?_ | refine off_mix rfl ?_)
        · skip
          have hsc : dK (z + 1) = dK z := hsc.trans (hdK z).symm
          refine op_loadA rfl rfl rfl rfl (hc2) ?_
          refine op_alloc (cs := [_, _]) rfl rfl fun b15_3 hb15_3 => ?_
          refine wp_norm [_, _, _, _] rfl ?_
          refine op_storeP 3 (v := .agg #[.int .i64 _, .int .i64 _]) (vs := [_, _]) (c' := [_, _]) rfl rfl rfl rfl rfl rfl rfl rfl rfl ?_
          refine wp_norm [_, _, _, _] rfl ?_
          refine xp_seq ?_
          refine xp_region rfl ?_
          refine op_pure (pv_fieldAddr rfl rfl rfl rfl 0 rfl) ?_
          refine op_loadP 3 (v := .int .i64 _) rfl rfl rfl rfl ?_
          refine op_pure (pv_of (v := .bool _) rfl) ?_
          refine xp_condF rfl (rfl) ?_
          refine xp_skip ?_
          refine xp_region rfl ?_
          refine op_pure (pv_move (v := .int .i64 _) rfl) ?_
          refine op_pure (pv_arith rfl (by omega)) ?_
          refine op_pure (pv_assign (v := .int .i64 _) rfl) ?_
          refine ⟨(z + 1, VB, cV2), ⟨rfl, slcE (lenE hsc.symm), trivial⟩, rfl, rfl, E_z, fun h3 E3 => ⟨hzl, rowE hsc.symm ((Z2.ext (Ext.refl _)).ext E3)⟩, by first | omega | (dsimp only; omega), ?_⟩
          repeat (first | exact off_base _ _ _ | refine off_upd (by decide) ?_ | refine off_updL rfl ?_ | refine off_mix rfl ?_)
      · skip
        have hze : z = l.length := by have := geI hz; omega
        subst hze
        refine xp_exit ?_
        refine xp_seq ?_
        refine xp_region rfl ?_
        refine op_pure (pv_move (v := .slice _ _ _) rfl) ?_
        refine op_pure (pv_assign (v := .slice _ _ _) rfl) ?_
        refine xp_ret ?_
        refine res_list (vs := [_]) Try.results107 ⟨resV_tmp rfl rfl, trivial⟩ fun V => ?_
        exact ⟨(Ext.trans (Ext.trans (Ext.trans (Ext.trans (Ext.trans E1 E_k) E4) E_q) E_z) (ext_wl V)), VB, cV2, rfl, (Z2.ext (Ext.refl _)).ext (ext_wl V)⟩
end
end Go.Proofs.Ythphpbdmbmiaiaa
/- Walks of the reference: Broken, told, Left; what is heard of a machine with faults. Conditions: as each theorem states. -/
namespace Go.Proofs.Ythphpbdmbmiaiaa
open Go Go.HL Go.Proofs Go.Wx Go.Rd
section
variable [Lvl]
set_option maxRecDepth 100000
theorem brokenE_ok {m : MachP} (M : MOK m) {l : List Int} (S : SetOK l (faultsM m).length) {a : HandP} (H : HOK m a) : brokenE m l a = 0 := by
  rw [brokenE, chk_of M, if_neg (by decide), checkSet_iff.2 S, if_neg (by decide), hand_of M H]
theorem BrokenR_ok (m : MachP) (M : MOK m) (l : List Int) (S : SetOK l (faultsM m).length) (a : HandP) (H : HOK m a) (AB AQ AL AW NA HA OA : Option Addr) (cB cQ cL cW cN cH cO : Nat) (hcQ : m.pins.length ≤ cQ) (hcL : m.links.length ≤ cL) (h : AH) (RM : MachR h AB AQ AL AW m) (RN : Row h 1 intC NA l) (RH : HandR h HA OA a) :
    FnT Try.prog 67 #[machV AB AQ AL AW cB cQ cL cW m, .slice NA l.length cN, handV HA OA cH cO a] h (fun v h' => ∃ L, v = .tuple #[L, .int .i64 0] ∧ SlR h' 1 intC (listN (soundsB m (pickL m l) a) 6) L) := by
  have mlv := M.levers
  have mpl := M.pl
  have mll := M.ll
  have fl := faults_len m
  have hll : l.length ≤ (faultsM m).length := set_len S
  have hs : checkSetM l (faultsM m).length = 0 := checkSet_iff.2 S
  have hd : checkHandM m a = 0 := hand_of M H
  have L1 := checkSetR_ok l (faultsM m).length (by omega) NA cN
  rw [hs] at L1
  have L2 := checkHandR_ok m M a AB AQ AL AW HA OA cB cQ cL cW cH cO
  rw [hd] at L2
  refine call_body Try.func67 rfl Try.ntmps67 rfl ?_
  refine xp_seq ?_
  refine xp_region rfl ?_
  refine op_box (v := .agg #[.int .i64 _, .int .i64 _, .int .i64 _, .int .i64 _, .int .i64 _, .slice _ _ _, .slice _ _ _, .slice _ _ _, .slice _ _ _]) (cs := [_, _, _, _, _, _, _, _, _]) rfl rfl fun b3 hb3 => ?_
  refine wp_norm [_] rfl ?_
  refine op_box (v := .agg #[.slice _ _ _, .slice _ _ _]) (cs := [_, _]) rfl rfl fun b5 hb5 => ?_
  refine wp_norm [_, _] rfl ?_
  refine op_pure (pv_assign (v := .slice _ _ _) rfl) ?_
  refine op_pure (pv_assign (v := .int .i64 _) rfl) ?_
  refine xp_seq ?_
  refine xp_seq ?_
  refine xp_region rfl ?_
  refine op_loadPA 0 (vs := [.int .i64 _, .int .i64 _, .int .i64 _, .int .i64 _, .int .i64 _, .slice _ _ _, .slice _ _ _, .slice _ _ _, .slice _ _ _]) rfl rfl rfl rfl rfl ?_
  refine op_fn (caps := []) (vs := [.agg #[.int .i64 _, .int .i64 _, .int .i64 _, .int .i64 _, .int .i64 _, .slice _ _ _, .slice _ _ _, .slice _ _ _, .slice _ _ _]]) rfl rfl rfl (CheckR_ok m M AB AQ AL AW cB cQ cL cW h (RM.ext (Ext.refl _))) ?_
  rintro _ h3 E3 rfl
  refine op_pure (pv_assign (v := .int .i64 _) rfl) ?_
  refine xp_seq ?_
  refine xp_region rfl ?_
  refine op_pure (pv_move (v := .int .i64 _) rfl) ?_
  refine op_pure (pv_of (v := .bool _) rfl) ?_
  refine xp_condF rfl (rfl) ?_
  refine xp_skip ?_
  refine xp_seq ?_
  refine xp_seq ?_
  refine xp_region rfl ?_
  refine op_pure (pv_move (v := .slice _ _ _) rfl) ?_
  refine op_loadPA 0 (vs := [.int .i64 _, .int .i64 _, .int .i64 _, .int .i64 _, .int .i64 _, .slice _ _ _, .slice _ _ _, .slice _ _ _, .slice _ _ _]) rfl rfl rfl rfl rfl ?_
  refine op_fn (caps := []) (vs := [.agg #[.int .i64 _, .int .i64 _, .int .i64 _, .int .i64 _, .int .i64 _, .slice _ _ _, .slice _ _ _, .slice _ _ _, .slice _ _ _]]) rfl rfl rfl (faultsR_ok m M AB AQ AL AW cB cQ cL cW h3) ?_
  rintro _ h4 E4 ⟨FA, cF, rfl, RF⟩
  refine op_pure (pv_len rfl rfl) ?_
  refine op_fn (caps := []) (vs := [.slice _ _ _, .int .i64 _]) rfl rfl rfl (L1 h4 (RN.ext (Ext.trans E3 E4)) (by omega)) ?_
  rintro _ h5 E5 rfl
  refine op_pure (pv_assign (v := .int .i64 _) rfl) ?_
  refine xp_seq ?_
  refine xp_region rfl ?_
  refine op_pure (pv_move (v := .int .i64 _) rfl) ?_
  refine op_pure (pv_of (v := .bool _) rfl) ?_
  refine xp_condF rfl (rfl) ?_
  refine xp_skip ?_
  refine xp_seq ?_
  refine xp_seq ?_
  refine xp_region rfl ?_
  refine op_loadPA 0 (vs := [.int .i64 _, .int .i64 _, .int .i64 _, .int .i64 _, .int .i64 _, .slice _ _ _, .slice _ _ _, .slice _ _ _, .slice _ _ _]) rfl rfl rfl rfl rfl ?_
  refine op_loadPA 1 (vs := [.slice _ _ _, .slice _ _ _]) rfl rfl rfl rfl rfl ?_
  refine op_fn (caps := []) (vs := [.agg _, .agg _]) rfl rfl rfl (L2 h5 (RH.ext (Ext.trans (Ext.trans E3 E4) E5)) (H.blen M) (H.olen M)) ?_
  rintro _ h6 E6 rfl
  refine op_pure (pv_assign (v := .int .i64 _) rfl) ?_
  refine xp_seq ?_
  refine xp_region rfl ?_
  refine op_pure (pv_move (v := .int .i64 _) rfl) ?_
  refine op_pure (pv_of (v := .bool _) rfl) ?_
  refine xp_condF rfl (rfl) ?_
  refine xp_skip ?_
  refine xp_seq ?_
  refine xp_region rfl ?_
  refine op_loadPA 0 (vs := [.int .i64 _, .int .i64 _, .int .i64 _, .int .i64 _, .int .i64 _, .slice _ _ _, .slice _ _ _, .slice _ _ _, .slice _ _ _]) rfl rfl rfl rfl rfl ?_
  refine op_pure (pv_move (v := .slice _ _ _) rfl) ?_
  refine op_loadPA 1 (vs := [.slice _ _ _, .slice _ _ _]) rfl rfl rfl rfl rfl ?_
  refine op_fn (caps := []) (vs := [.agg #[.int .i64 _, .int .i64 _, .int .i64 _, .int .i64 _, .int .i64 _, .slice _ _ _, .slice _ _ _, .slice _ _ _, .slice _ _ _], .slice _ _ _, .agg #[.slice _ _ _, .slice _ _ _]]) rfl rfl rfl (brokenR_ok m M l S a H AB AQ AL AW NA HA OA cB cQ cL cW cN cH cO hcQ hcL h6 (RM.ext (Ext.trans (Ext.trans (Ext.trans E3 E4) E5) E6)) (RN.ext (Ext.trans (Ext.trans (Ext.trans E3 E4) E5) E6)) (RH.ext (Ext.trans (Ext.trans (Ext.trans E3 E4) E5) E6))) ?_
  rintro _ h7 E7 ⟨A7, c7, rfl, R7⟩
  refine op_pure (pv_assign (v := .slice _ _ _) rfl) ?_
  refine op_pure (pv_assign (v := .int .i64 _) rfl) ?_
  refine xp_ret ?_
  refine res_list (vs := [_, _]) Try.results67 ⟨resV_tmp rfl rfl, resV_tmp rfl rfl, trivial⟩ fun V => ?_
  exact ⟨(Ext.trans (Ext.trans (Ext.trans (Ext.trans (Ext.trans E3 E4) E5) E6) E7) (ext_wl V)), _, rfl, A7, c7, rfl, R7.ext (ext_wl V)⟩
/-- What is heard of a machine with some faults. -/
theorem heardOf_ok (b x : Nat) (m : MachP) (M : MOK m) (l : List Int) (S : SetOK l (faultsM m).length) (most : Int) (hm : 0 ≤ most ∧ most ≤ 5) (AB AQ AL AW NA : Option Addr) (cB cQ cL cW cN : Nat) (hcQ : m.pins.length ≤ cQ) (hcL : m.links.length ≤ cL) (h : AH) (RM : MachR h AB AQ AL AW m) (RN : Row h 1 intC NA l) :
    FnM Try.prog (.func (.func 49) #[] ([] : List Value).toArray) [.pointer (some ⟨b, 0, none⟩), machV AB AQ AL AW cB cQ cL cW m, .slice NA l.length cN, .int .i64 most] h [some (b, .cells #[.int .u64 (x : Int)] 97 (0, 0))]
    (fun v h' M' => ∃ (x' : Nat) (hs : List HeardP), M' = [some (b, .cells #[.int .u64 (x' : Int)] 97 (0, 0))] ∧ SlX h' 3 TU hs v ∧ (hs.length : Int) ≤ most ∧ ∀ x ∈ hs, HOK m x.hand ∧ x.sounds = listN (soundsB m (pickL m l) x.hand) 6) := by
  have mbl := M.bl
  have mrg := M.regs
  refine fnM_body rfl rfl Try.func49 rfl Try.ntmps49 rfl ?_
  refine xp_seq ?_
  refine xp_region rfl ?_
  refine op_box (v := .agg #[.int .i64 _, .int .i64 _, .int .i64 _, .int .i64 _, .int .i64 _, .slice _ _ _, .slice _ _ _, .slice _ _ _, .slice _ _ _]) (cs := [_, _, _, _, _, _, _, _, _]) rfl rfl fun b5 hb5 => ?_
  refine wp_norm [_, _] rfl ?_
  refine op_pure (pv_assign (v := .slice _ _ _) rfl) ?_
  refine goes_more ?_
  refine goes_norm [_, _, _] rfl ?_
  refine xp_seq ?_
  refine xp_region rfl ?_
  refine op_pure (pv_assign (v := .slice _ _ _) rfl) ?_
  refine xp_seq ?_
  refine xp_seq ?_
  refine xp_region rfl ?_
  refine op_pure (pv_move (v := .pointer (some ⟨b, 0, none⟩)) rfl) ?_
  refine op_pure (pv_move (v := .int .i64 _) rfl) ?_
  refine op_fnMM [] [_] [_, _] (vs := [.pointer _, .int .i64 _]) rfl rfl rfl ((Upto_ok b x most (by omega) h)) ?_
  rintro _ h3 _ E13 ⟨x3, i0, rfl, rfl, i01, i02⟩
  refine wp_norm [_, _, _] rfl ?_
  refine op_pure (pv_assign (v := .int .i64 _) rfl) ?_
  refine xp_block ?_
  refine xp_loopL [9, 10, 11, 12, 13, 17, 18, 19, 20, 21, 22, 23, 24, 25, 26, 27, 28, 29, 30, 31, 32, 33, 34, 35, 36] 3 (α := Int × Nat × List HeardP × Acc × List (List Value)) (fun ⟨i, y, hs, a, cs⟩ => [(10, .int .i64 i), (9, .slice a.A a.n a.c)]) (fun ⟨i, y, hs, a, cs⟩ L => (L.set 0 (some (b, .cells #[.int .u64 (y : Int)] 97 (0, 0)))).set 2 (a.p)) (fun ⟨i, y, hs, a, cs⟩ h_i => (0 ≤ i ∧ i + hs.length ≤ most) ∧ (∀ x ∈ hs, HOK m x.hand ∧ x.sounds = listN (soundsB m (pickL m l) x.hand) 6) ∧ AccR 78 3 (cs.flatMap id) a ∧ Els h_i TU hs cs ∧ ∀ x ∈ cs, x.length = 3) (fun ⟨i, y, hs, a, cs⟩ => i.toNat) ((i0, x3, [], acc0, [])) ⟨rfl, rfl, trivial⟩ (rfl) (⟨⟨by omega, by simp; omega⟩, fun _ hx => absurd hx List.not_mem_nil, accR0, Els.nil _ _, fun _ hx => absurd hx List.not_mem_nil⟩) ?_
  rintro ⟨i, y, hs, a, cs⟩ T1 h_i E_i J_i
  refine goes_norm [_, _, _] rfl ?_
  obtain ⟨⟨K1, K2⟩, K3, K4, K5, K6⟩ := J_i
  refine xp_seq ?_
  refine xp_seq ?_
  refine xp_region rfl ?_
  refine op_pure (pv_move (v := .int .i64 _) rfl) ?_
  refine op_pure (pv_of (v := .bool _) rfl) ?_
  refine xp_cond rfl (fun hi => ?_) (fun hi => ?_)
  · skip
    have hi0 : 0 < i := of_decide_eq_true hi
    refine xp_skip ?_
    refine xp_seq ?_
    refine xp_block ?_
    refine xp_seq ?_
    refine xp_region rfl ?_
    refine op_pure (pv_move (v := .pointer (some ⟨b, 0, none⟩)) rfl) ?_
    refine op_loadPA 1 (vs := [.int .i64 _, .int .i64 _, .int .i64 _, .int .i64 _, .int .i64 _, .slice _ _ _, .slice _ _ _, .slice _ _ _, .slice _ _ _]) rfl rfl rfl rfl rfl ?_
    refine op_fnMM [] [_] [_, _] (vs := _) rfl rfl rfl ((HandOf_ok b y m (by omega) (by omega) AB AQ AL AW cB cQ cL cW h_i)) ?_
    rintro _ h6 _ E6 ⟨y2, a1, rfl, VH, H⟩
    refine wp_norm [_, _, _] rfl ?_
    obtain ⟨HA, OA, cH, cO, rfl, RH⟩ := VH.open
    refine op_alloc (cs := [_, _]) rfl rfl fun b11 hb11 => ?_
    refine wp_norm [_, _, _, _] rfl ?_
    refine op_storeP 3 (v := .agg #[.slice _ _ _, .slice _ _ _]) (vs := [_, _]) (c' := [_, _]) rfl rfl rfl rfl rfl rfl rfl rfl rfl ?_
    refine wp_norm [_, _, _, _] rfl ?_
    refine xp_seq ?_
    refine xp_region rfl ?_
    refine op_loadPA 1 (vs := [.int .i64 _, .int .i64 _, .int .i64 _, .int .i64 _, .int .i64 _, .slice _ _ _, .slice _ _ _, .slice _ _ _, .slice _ _ _]) rfl rfl rfl rfl rfl ?_
    refine op_pure (pv_move (v := .slice _ _ _) rfl) ?_
    refine op_loadPA 3 (vs := [.slice _ _ _, .slice _ _ _]) rfl rfl rfl rfl rfl ?_
    refine op_fn (caps := []) (vs := [.agg _, .slice _ _ _, .agg _]) rfl rfl rfl (BrokenR_ok m M l S a1 H AB AQ AL AW NA HA OA cB cQ cL cW cN cH cO hcQ hcL h6 (RM.ext (Ext.trans (Ext.trans E13 E_i) E6)) (RN.ext (Ext.trans (Ext.trans E13 E_i) E6)) (RH.ext (Ext.refl _))) ?_
    rintro _ h7 E7 ⟨_, rfl, A7, c7, rfl, S7⟩
    refine op_pure (pv_move (v := .tuple #[.slice _ _ _, .int .i64 _]) rfl) ?_
    refine op_pure (pv_of (v := .slice _ _ _) rfl) ?_
    refine op_pure (pv_of (v := .int .i64 _) rfl) ?_
    refine op_pure (pv_assign (v := .slice _ _ _) rfl) ?_
    refine op_pure (pv_assign (v := .int .i64 _) rfl) ?_
    refine xp_region rfl ?_
    refine op_pure (pv_move (v := .slice _ _ _) rfl) ?_
    refine op_loadPA 3 (vs := [.slice _ _ _, .slice _ _ _]) rfl rfl rfl rfl rfl ?_
    refine op_pure (pv_move (v := .slice _ _ _) rfl) ?_
    refine op_pure (pv_build (zc := [_, _, _]) (vs := [(0, .agg #[.slice _ _ _, .slice _ _ _]), (1, .slice _ _ _)]) (cs := [_, _, _]) rfl rfl rfl rfl rfl rfl) ?_
    refine op_buildSlice (zc := [_, _, _]) (vs := [(0, .agg #[.slice _ _ _, .slice _ _ _, .slice _ _ _])]) (cs := [_, _, _]) rfl rfl rfl rfl rfl rfl rfl fun b35 hb35 => ?_
    refine wp_norm [_, _, _, _, _] rfl ?_
    refine op_appendR 2 K4 rfl rfl rfl (fun V => rdP V (i := 4) rfl) rfl rfl rfl rfl rfl rfl rfl rfl rfl (by omega) rfl (by rw [flat_len (enc := id) (m := 3) K6, K5.1]; simp; omega) fun a2 h2a E2a ha2 => ?_
    refine wp_norm [_, _, _, _, _] rfl ?_
    refine op_pure (pv_assign (v := .slice _ _ _) rfl) ?_
    refine xp_region rfl ?_
    refine op_pure (pv_move (v := .int .i64 _) rfl) ?_
    refine op_pure (pv_arith rfl (by omega)) ?_
    refine op_pure (pv_assign (v := .int .i64 _) rfl) ?_
    refine ⟨(i - 1, y2, hs ++ [⟨a1, listN (soundsB m (pickL m l) a1) 6⟩], a2, cs ++ [[.slice HA a1.buttons.length cH, .slice OA a1.on.length cO, .slice A7 (listN (soundsB m (pickL m l) a1) 6).length c7]]), ⟨rfl, rfl, trivial⟩, rfl, rfl, (Ext.trans (Ext.trans (Ext.trans E_i E6) E7) E2a), fun h3 E3 => ⟨⟨by omega, by simp; omega⟩, mem_one K3 ⟨H, rfl⟩, by rw [List.flatMap_append]; exact ha2, (Els.snoc (K5.ext TU.mono (Ext.trans (Ext.trans E6 E7) E2a)) (tu_of (RH.ext (Ext.trans E7 E2a)) (S7.ext E2a))).ext TU.mono E3, three_len K6 rfl⟩, by first | omega | (dsimp only; omega), ?_⟩
    repeat (first | exact off_base _ _ _ | refine off_upd (by decide) ?_ | refine off_updL rfl ?_ | refine off_mix rfl ?_)
  · skip
    obtain ⟨p8, A8, n8, c8⟩ := a
    obtain rfl : n8 = hs.length := by have := AccR.len K4; rw [flat_len (enc := id) (m := 3) K6, K5.1] at this; dsimp only at this; omega
    dsimp only at *
    refine goes_pubO 2 rfl ?_
    intro g8 G8 P8
    refine goes_norm [_, _, _] rfl ?_
    have RU : Row g8 3 id A8 cs := ⟨K6, AccR.rd K4 P8⟩
    have EU : Els g8 TU hs cs := K5.ext TU.mono G8
    refine xp_exit ?_
    refine xp_seq ?_
    refine xp_region rfl ?_
    refine op_pure (pv_move (v := .slice _ _ _) rfl) ?_
    refine op_pure (pv_assign (v := .slice _ _ _) rfl) ?_
    refine xp_ret ?_
    refine res_list (vs := [_]) Try.results49 ⟨resV_tmp rfl rfl, trivial⟩ fun V => ?_
    obtain ⟨h9, E9, e9, V9⟩ := wl_drop [_, _] [_] V
    exact ⟨h9, _, e9, V9, Ext.trans (Ext.trans (Ext.trans E13 E_i) G8) E9, y, hs, rfl, SlX.of (RU.ext E9) (EU.ext TU.mono E9) rfl, by omega, K3⟩
end
end Go.Proofs.Ythphpbdmbmiaiaa
/- Walks: copies of what was heard; how many are left. Conditions: as each theorem states. -/
namespace Go.Proofs.Ythphpbdmbmiaiaa
open Go Go.HL Go.Proofs Go.Wx Go.Rd
section
variable [Lvl]
set_option maxRecDepth 100000
end
end Go.Proofs.Ythphpbdmbmiaiaa
/- Walks: after the hand of Test as few are left as it says, and no hand is better. Conditions: as each theorem states. -/
namespace Go.Proofs.Ythphpbdmbmiaiaa
open Go Go.HL Go.Proofs Go.Wx Go.Rd
section
variable [Lvl]
set_option maxRecDepth 100000
end
end Go.Proofs.Ythphpbdmbmiaiaa
/- Walks: a set of at most two faults. Conditions: as each theorem states. -/
namespace Go.Proofs.Ythphpbdmbmiaiaa
open Go Go.HL Go.Proofs Go.Wx Go.Rd
section
variable [Lvl]
set_option maxRecDepth 100000
theorem row_two {h : AH} {b : Nat} {z y : Int} {e : TypeId} {f : Nat × Nat} (hb : h b = some (.cells #[.int .i64 z, .int .i64 y] e f)) : Row h 1 intC (some ⟨b, 0, none⟩) [z, y] :=
  ⟨fun _ _ => rfl, fun _ => ⟨b, 0, rfl, cellsB (cs := [.int .i64 z, .int .i64 y]) hb⟩⟩
theorem set_one {n : Int} {z : Int} (h : 0 ≤ z ∧ z < n) : SetOK [z] n := ⟨fun x hx => by simp at hx; omega, by simp⟩
theorem set_two {n : Int} {z y : Int} (h : 0 ≤ z ∧ z < n) (h' : 0 ≤ y ∧ y < n) (hne : z ≠ y) : SetOK [min z y, max z y] n := by
  refine ⟨fun x hx => ?_, ?_⟩
  · simp at hx
    rcases hx with rfl | rfl <;> omega
  · simp; omega
set_option maxHeartbeats 4000000 in
theorem faultsOf_ok (b x : Nat) (m : MachP) (M : MOK m) (AB AQ AL AW : Option Addr) (cB cQ cL cW : Nat) (h : AH) (RM : MachR h AB AQ AL AW m) :
    FnM Try.prog (.func (.func 63) #[] ([] : List Value).toArray) [.pointer (some ⟨b, 0, none⟩), machV AB AQ AL AW cB cQ cL cW m] h [some (b, .cells #[.int .u64 (x : Int)] 97 (0, 0))]
    (fun v h' M' => ∃ (x' : Nat) (ls : List Int), M' = [some (b, .cells #[.int .u64 (x' : Int)] 97 (0, 0))] ∧ SlR h' 1 intC ls v ∧ SetOK ls (faultsM m).length ∧ ls.length ≤ 2) := by
  have mlv := M.levers
  have mpl := M.pl
  have mll := M.ll
  have fln := faults_len m
  refine fnM_body rfl rfl Try.func63 rfl Try.ntmps63 rfl ?_
  refine xp_seq ?_
  refine xp_region rfl ?_
  refine op_box (v := .agg #[.int .i64 _, .int .i64 _, .int .i64 _, .int .i64 _, .int .i64 _, .slice _ _ _, .slice _ _ _, .slice _ _ _, .slice _ _ _]) (cs := [_, _, _, _, _, _, _, _, _]) rfl rfl fun b3 hb3 => ?_
  refine wp_norm [_, _] rfl ?_
  refine op_pure (pv_assign (v := .slice _ _ _) rfl) ?_
  refine xp_seq ?_
  refine xp_region rfl ?_
  refine op_loadPA 1 (vs := [.int .i64 _, .int .i64 _, .int .i64 _, .int .i64 _, .int .i64 _, .slice _ _ _, .slice _ _ _, .slice _ _ _, .slice _ _ _]) rfl rfl rfl rfl rfl ?_
  refine op_fn (caps := []) (vs := [.agg #[.int .i64 _, .int .i64 _, .int .i64 _, .int .i64 _, .int .i64 _, .slice _ _ _, .slice _ _ _, .slice _ _ _, .slice _ _ _]]) rfl rfl rfl (FaultsR_ok m M AB AQ AL AW cB cQ cL cW h (RM.ext (Ext.refl _))) ?_
  rintro _ h13 E13 ⟨_, rfl, A3, c3, rfl, S3⟩
  refine op_pure (pv_move (v := .tuple #[.slice _ _ _, .int .i64 _]) rfl) ?_
  refine op_pure (pv_of (v := .slice _ _ _) rfl) ?_
  refine op_pure (pv_of (v := .int .i64 _) rfl) ?_
  refine op_pure (pv_assign (v := .slice _ _ _) rfl) ?_
  refine op_pure (pv_assign (v := .int .i64 _) rfl) ?_
  refine xp_seq ?_
  refine xp_region rfl ?_
  refine op_pure (pv_move (v := .pointer (some ⟨b, 0, none⟩)) rfl) ?_
  refine op_pure (pv_move (v := .slice _ _ _) rfl) ?_
  refine op_pure (pv_len rfl rfl) ?_
  refine op_pure (pv_arith rfl (by omega)) ?_
  refine op_fnMM [] [_] [_] (vs := [.pointer _, .int .i64 _]) rfl rfl rfl ((Upto_ok b x ((faultsM m).length - 1) (by omega) h13)) ?_
  rintro _ h4 _ E4 ⟨x4, a, rfl, rfl, a1, a2⟩
  refine wp_norm [_, _] rfl ?_
  refine op_pure (pv_move (v := .pointer (some ⟨b, 0, none⟩)) rfl) ?_
  refine op_pure (pv_move (v := .slice _ _ _) rfl) ?_
  refine op_pure (pv_len rfl rfl) ?_
  refine op_pure (pv_arith rfl (by omega)) ?_
  refine op_fnMM [] [_] [_] (vs := [.pointer _, .int .i64 _]) rfl rfl rfl ((Upto_ok b x4 ((faultsM m).length - 1) (by omega) h4)) ?_
  rintro _ h5 _ E5 ⟨x5, d, rfl, rfl, d1, d2⟩
  refine wp_norm [_, _] rfl ?_
  refine op_pure (pv_assign (v := .int .i64 _) rfl) ?_
  refine op_pure (pv_assign (v := .int .i64 _) rfl) ?_
  refine xp_seq ?_
  refine xp_block ?_
  refine xp_seq ?_
  refine xp_region rfl ?_
  refine op_pure (pv_move (v := .pointer (some ⟨b, 0, none⟩)) rfl) ?_
  refine op_fnMM [] [_] [_] (vs := [.pointer _, .int .i64 _, .int .i64 _]) rfl rfl rfl ((Odds_ok b x5 1 4 (by omega) h5)) ?_
  rintro _ h6 _ E6 ⟨x6, u, rfl, rfl⟩
  refine wp_norm [_, _] rfl ?_
  have ha : 0 ≤ a ∧ a < (faultsM m).length := by omega
  have hd : 0 ≤ d ∧ d < (faultsM m).length := by omega
  refine op_pure (pv_assign (v := .bool _) rfl) ?_
  refine xp_cond rfl (fun hu => ?_) (fun hu => ?_)
  · skip
    refine xp_seq ?_
    refine xp_region rfl ?_
    refine op_pure (pv_assign (v := .slice _ _ _) rfl) ?_
    refine xp_ret ?_
    refine res_list (vs := [_]) Try.results63 ⟨resV_tmp rfl rfl, trivial⟩ fun V => ?_
    obtain ⟨h9, E9, e9, V9⟩ := wl_drop [_] [_] V
    exact ⟨h9, _, e9, V9, Ext.trans (Ext.trans (Ext.trans (Ext.trans E13 E4) E5) E6) E9, x6, [], rfl, ⟨none, 0, rfl, row_nil _ _⟩, set_nil _, by simp⟩
  · skip
    by_cases he : a = d
    · skip
      have he' : (a == d) = true := by simpa using he
      refine xp_seq ?_
      refine xp_region rfl ?_
      refine op_pure (pv_move (v := .int .i64 _) rfl) ?_
      refine op_pure (pv_move (v := .int .i64 _) rfl) ?_
      refine op_pure (pv_of (v := .bool _) rfl) ?_
      refine op_pure (pv_move (v := .bool _) rfl) ?_
      refine guard_no rfl he' ?_
      refine guard_no rfl he' ?_
      refine op_pure (pv_pickT rfl he' (v := .bool _) rfl) ?_
      refine op_pure (pv_assign (v := .bool _) rfl) ?_
      refine xp_condT rfl (rfl) ?_
      refine xp_seq ?_
      refine xp_region rfl ?_
      refine op_pure (pv_move (v := .int .i64 _) rfl) ?_
      refine op_buildSlice (zc := [_]) (vs := [(0, .int .i64 _)]) (cs := [_]) rfl rfl rfl rfl rfl rfl rfl fun b36 hb36 => ?_
      refine wp_norm [_, _, _] rfl ?_
      refine wp_pub 2 rfl rfl ?_
      intro g1 G1 p1
      refine wp_norm [_, _, _] rfl ?_
      refine op_pure (pv_assign (v := .slice _ _ _) rfl) ?_
      refine xp_ret ?_
      refine res_list (vs := [_]) Try.results63 ⟨resV_tmp rfl rfl, trivial⟩ fun V => ?_
      obtain ⟨h9, E9, e9, V9⟩ := wl_drop [_, _] [_] V
      exact ⟨h9, _, e9, V9, Ext.trans (Ext.trans (Ext.trans (Ext.trans (Ext.trans E13 E4) E5) E6) G1) E9, x6, [a], rfl, ⟨_, _, rfl, (row_one p1).ext E9⟩, set_one ha, by simp⟩
    · skip
      have he' : (a == d) = false := by simpa using he
      refine xp_seq ?_
      refine xp_region rfl ?_
      refine op_pure (pv_move (v := .int .i64 _) rfl) ?_
      refine op_pure (pv_move (v := .int .i64 _) rfl) ?_
      refine op_pure (pv_of (v := .bool _) rfl) ?_
      refine op_pure (pv_move (v := .bool _) rfl) ?_
      refine guard_yes rfl he' ?_
      refine op_pure (pv_move (v := .pointer (some ⟨b, 0, none⟩)) rfl) ?_
      refine guard_yes rfl he' ?_
      refine op_fnMM [] [_] [_] (vs := [.pointer _, .int .i64 _, .int .i64 _]) rfl rfl rfl ((Odds_ok b x6 1 2 (by omega) h6)) ?_
      rintro _ h7 _ E7 ⟨x7, u7, rfl, rfl⟩
      refine wp_norm [_, _] rfl ?_
      refine op_pure (pv_pickF rfl he' (v := .bool _) rfl) ?_
      refine op_pure (pv_assign (v := .bool _) rfl) ?_
      refine xp_cond rfl (fun hv => ?_) (fun hv => ?_)
      · skip
        refine xp_seq ?_
        refine xp_region rfl ?_
        refine op_pure (pv_move (v := .int .i64 _) rfl) ?_
        refine op_buildSlice (zc := [_]) (vs := [(0, .int .i64 _)]) (cs := [_]) rfl rfl rfl rfl rfl rfl rfl fun b36_1 hb36_1 => ?_
        refine wp_norm [_, _, _] rfl ?_
        refine wp_pub 2 rfl rfl ?_
        intro g1 G1 p1
        refine wp_norm [_, _, _] rfl ?_
        refine op_pure (pv_assign (v := .slice _ _ _) rfl) ?_
        refine xp_ret ?_
        refine res_list (vs := [_]) Try.results63 ⟨resV_tmp rfl rfl, trivial⟩ fun V => ?_
        obtain ⟨h9, E9, e9, V9⟩ := wl_drop [_, _] [_] V
        exact ⟨h9, _, e9, V9, Ext.trans (Ext.trans (Ext.trans (Ext.trans (Ext.trans (Ext.trans E13 E4) E5) E6) E7) G1) E9, x7, [a], rfl, ⟨_, _, rfl, (row_one p1).ext E9⟩, set_one ha, by simp⟩
      · skip
        refine xp_skip ?_
        refine xp_seq ?_
        refine xp_region rfl ?_
        refine op_pure (pv_move (v := .int .i64 _) rfl) ?_
        refine op_pure (pv_move (v := .int .i64 _) rfl) ?_
        refine op_pure (pv_min rfl rfl) ?_
        refine op_pure (pv_move (v := .int .i64 _) rfl) ?_
        refine op_pure (pv_move (v := .int .i64 _) rfl) ?_
        refine op_pure (pv_max rfl rfl) ?_
        refine op_buildSlice (zc := [_]) (vs := [(0, .int .i64 _), (1, .int .i64 _)]) (cs := [_, _]) rfl rfl rfl rfl rfl rfl rfl fun b43 hb43 => ?_
        refine wp_norm [_, _, _] rfl ?_
        refine wp_pub 2 rfl rfl ?_
        intro g1 G1 p1
        refine wp_norm [_, _, _] rfl ?_
        refine op_pure (pv_assign (v := .slice _ _ _) rfl) ?_
        refine xp_ret ?_
        refine res_list (vs := [_]) Try.results63 ⟨resV_tmp rfl rfl, trivial⟩ fun V => ?_
        obtain ⟨h9, E9, e9, V9⟩ := wl_drop [_, _] [_] V
        exact ⟨h9, _, e9, V9, Ext.trans (Ext.trans (Ext.trans (Ext.trans (Ext.trans (Ext.trans E13 E4) E5) E6) E7) G1) E9, x7, [min a d, max a d], rfl, ⟨_, _, rfl, (row_two p1).ext E9⟩, set_two ha hd he, by simp⟩
end
end Go.Proofs.Ythphpbdmbmiaiaa
/- Walks of package rod: Useless. Conditions: as each theorem states. -/
namespace Go.Proofs.Ythphpbdmbmiaiaa
open Go Go.HL Go.Proofs Go.Wx Go.Rd
section
variable [Lvl]
set_option maxRecDepth 100000
def alikeB (m : MachP) (i : Nat) (a : HandP) : Bool := decide (soundsB m [.pin i] a = soundsB m [] a)
def uselessB (m : MachP) (i : Nat) : Bool := (handsM m).all (alikeB m i)
def UseI (m : MachP) (q : Nat) (p1 p5 p8 : Nat × Obj) (pa : Option (Nat × Obj)) (l : Nat) (r : Loop) (h0 : AH) (k : Nat) (h : AH) (M : Pv) : Prop :=
  Ext h0 h ∧ (∀ i x, i < k → (handsM m)[i]? = some x → alikeB m q x = true) ∧ M = [some p1, some p5, pa, none, some p8, some (l, obL r .ready none)]
def UseF (m : MachP) (q : Nat) (p1 p5 p8 : Nat × Obj) (pa : Option (Nat × Obj)) (l : Nat) (r : Loop) (h0 : AH) (h : AH) (M : Pv) : Prop :=
  Ext h0 h ∧ uselessB m q = false ∧ M = [some p1, some p5, pa, none, some p8, some (l, obL r .done (some (.exit 1)))]
theorem UseI.ext {m : MachP} {q : Nat} {p1 p5 p8 : Nat × Obj} {pa : Option (Nat × Obj)} {l : Nat} {r : Loop} {h0 h h' : AH} {k : Nat} {M : Pv} (I : UseI m q p1 p5 p8 pa l r h0 k h M) (E : Ext h h') : UseI m q p1 p5 p8 pa l r h0 k h' M := ⟨I.1.trans E, I.2⟩
theorem UseF.ext {m : MachP} {q : Nat} {p1 p5 p8 : Nat × Obj} {pa : Option (Nat × Obj)} {l : Nat} {r : Loop} {h0 h h' : AH} {M : Pv} (I : UseF m q p1 p5 p8 pa l r h0 h M) (E : Ext h h') : UseF m q p1 p5 p8 pa l r h0 h' M := ⟨I.1.trans E, I.2⟩
end
end Go.Proofs.Ythphpbdmbmiaiaa
/- Plain: useless pins, all hands, what a suspect is. Conditions: as each theorem states. -/
namespace Go.Proofs.Ythphpbdmbmiaiaa
open Go Go.HL Go.Proofs Go.Wx Go.Rd
section
variable [Lvl]
set_option maxRecDepth 100000
theorem chos_all {n : Nat} : ∀ (x : List Int) (a : Nat), (∀ z ∈ x, (a : Int) ≤ z ∧ z < n) → x.Pairwise (· < ·) → x ∈ chosM n x.length a
  | [], a, _, _ => by simp [chosM]
  | y :: x, a, h, p => by
    rw [List.pairwise_cons] at p
    have hy := h y (List.mem_cons_self ..)
    show y :: x ∈ choP _ a (n - a)
    rw [choP_mem]
    refine ⟨y.toNat, by omega, by omega, ?_⟩
    rw [List.mem_map]
    refine ⟨x, chos_all x (y.toNat + 1) (fun z hz => ?_) p.2, by rw [Int.toNat_of_nonneg (by omega)]⟩
    have h1 := p.1 z hz
    have h2 := h z (List.mem_cons_of_mem _ hz)
    omega
theorem snd_lv {m : MachP} (M : MOK m) {l : List FaultP} (hf : ∀ f ∈ l, FOK m f) (a : HandP) : soundsB m l a < 2 ^ m.levers.toNat := by
  have h1 := sounds_lt (brkM m l) a m.travel
  have h2 : (brkF m l).stay < 2 ^ m.levers.toNat := brk_stay_lt M hf
  have h3 : (brkM m l).levers = m.levers := rfl
  rw [h3] at h1
  unfold soundsB
  exact Nat.lt_of_le_of_lt Nat.and_le_left (Nat.or_lt_two_pow h1 h2)
theorem snd_six {m : MachP} (M : MOK m) {l : List FaultP} (hf : ∀ f ∈ l, FOK m f) (a : HandP) : soundsB m l a < 2 ^ 6 :=
  Nat.lt_of_lt_of_le (snd_lv M hf a) (Nat.pow_le_pow_right (by omega) (by have := M.levers; omega))
end
end Go.Proofs.Ythphpbdmbmiaiaa
/- Walks: what a useless pin is. Conditions: as each theorem states. -/
namespace Go.Proofs.Ythphpbdmbmiaiaa
open Go Go.HL Go.Proofs Go.Wx Go.Rd
section
variable [Lvl]
set_option maxRecDepth 100000
end
end Go.Proofs.Ythphpbdmbmiaiaa
/- Walks of package rod: the sets of the fewest faults. Conditions: as each theorem states. -/
namespace Go.Proofs.Ythphpbdmbmiaiaa
open Go Go.HL Go.Proofs Go.Wx Go.Rd
section
variable [Lvl]
set_option maxRecDepth 100000
/-- No more sets are looked at. -/
def scanB (out : List (List Int)) (s : List Int) : Bool := decide (s.length > 2) || (decide (out.length > 0) && decide (s.length > (out.headD []).length))
def scanF (E : List Int → Bool) : List (List Int) → List (List Int) → List (List Int)
  | out, [] => out
  | out, s :: ss => if scanB out s then out else scanF E (if E s then out ++ [s] else out) ss
theorem scan_block {E : List Int → Bool} {j : Nat} (hj : j ≤ 2) : ∀ (ss tt out : List (List Int)), (∀ s ∈ ss, s.length = j) → (∀ o ∈ out, o.length = j) → scanF E out (ss ++ tt) = scanF E (out ++ ss.filter E) tt
  | [], tt, out, _, _ => by simp
  | s :: ss, tt, out, hs, ho => by
    have hsj := hs s (List.mem_cons_self ..)
    have hb : scanB out s = false := by
      unfold scanB
      cases out with
      | nil => simp; omega
      | cons o out => have := ho o (List.mem_cons_self ..); simp; omega
    rw [List.cons_append, scanF, hb]
    simp only [Bool.false_eq_true, if_false]
    by_cases he : E s = true
    · rw [if_pos he, scan_block hj ss tt (out ++ [s]) (fun x hx => hs x (List.mem_cons_of_mem _ hx)) (mem_one ho hsj), List.filter_cons_of_pos he]
      simp
    · rw [if_neg he, scan_block hj ss tt out (fun x hx => hs x (List.mem_cons_of_mem _ hx)) ho, List.filter_cons_of_neg he]
theorem scan_end {E : List Int → Bool} {out tt : List (List Int)} (h : ∀ s ∈ tt, scanB out s = true) : scanF E out tt = out := by
  cases tt with
  | nil => rfl
  | cons s tt => rw [scanF, if_pos (h s (List.mem_cons_self ..))]
def fewJ (m : MachP) (hs : List HeardP) (j : Nat) : List (List Int) := (chosM (faultsM m).length j 0).filter fun s => explainsB m (pickL m s) hs
def fewestL (m : MachP) (hs : List HeardP) : List (List Int) := scanF (fun s => explainsB m (pickL m s) hs) [] (setsM (faultsM m).length)
theorem few_len {m : MachP} {hs : List HeardP} {j : Nat} : ∀ o ∈ fewJ m hs j, o.length = j := fun o ho => (chos_set (List.mem_filter.1 ho).1).2
theorem fewest_eq {m : MachP} (hs : List HeardP) (hn : 2 ≤ (faultsM m).length) : fewestL m hs = if fewJ m hs 0 ≠ [] then fewJ m hs 0 else if fewJ m hs 1 ≠ [] then fewJ m hs 1 else fewJ m hs 2 := by
  obtain ⟨n, hnn⟩ : ∃ n, n = (faultsM m).length := ⟨_, rfl⟩
  obtain ⟨E, hE⟩ : ∃ E : List Int → Bool, E = fun s => explainsB m (pickL m s) hs := ⟨_, rfl⟩
  have e1 : setsM n = chosM n 0 0 ++ (chosM n 1 0 ++ (chosM n 2 0 ++ (List.range' 3 (n - 2)).flatMap fun j => chosM n j 0)) := by
    rw [setsM_eq]
    unfold choP
    rw [show n + 1 = 3 + (n - 2) by omega, ← List.range'_append_1, List.flatMap_append]
    simp [List.range']
  have hf : ∀ j, fewJ m hs j = (chosM n j 0).filter E := fun j => by rw [hnn, hE]; rfl
  have hsz : ∀ j, ∀ s ∈ chosM n j 0, s.length = j := fun j s h => (chos_set h).2
  have hrest : ∀ s ∈ (List.range' 3 (n - 2)).flatMap (fun j => chosM n j 0), 3 ≤ s.length := fun s h => by
    obtain ⟨j, hj, hs'⟩ := List.mem_flatMap.1 h
    have := List.mem_range'_1.1 hj
    rw [hsz j s hs']
    omega
  have hb : ∀ (out : List (List Int)) (j : Nat) (s : List Int), out ≠ [] → (∀ o ∈ out, o.length = j) → j < s.length → scanB out s = true := fun out j s h1 h2 h3 => by
    unfold scanB
    cases out with
    | nil => exact absurd rfl h1
    | cons o out => have := h2 o (List.mem_cons_self ..); simp; omega
  have hb3 : ∀ (out : List (List Int)) (s : List Int), 3 ≤ s.length → scanB out s = true := fun out s h => by unfold scanB; simp; omega
  rw [fewestL, ← hnn, ← hE, e1, scan_block (j := 0) (by omega) _ _ _ (hsz 0) (fun o h => absurd h List.not_mem_nil), List.nil_append, ← hf]
  by_cases h0 : fewJ m hs 0 = []
  · rw [if_neg (by simp [h0]), h0, scan_block (j := 1) (by omega) _ _ _ (hsz 1) (fun o h => absurd h List.not_mem_nil), List.nil_append, ← hf]
    by_cases h1 : fewJ m hs 1 = []
    · rw [if_neg (by simp [h1]), h1, scan_block (j := 2) (by omega) _ _ _ (hsz 2) (fun o h => absurd h List.not_mem_nil), List.nil_append, ← hf]
      exact scan_end fun s hs => hb3 _ s (hrest s hs)
    · rw [if_pos h1]
      refine scan_end fun s hs => hb _ 1 s h1 few_len ?_
      rcases List.mem_append.1 hs with h | h
      · rw [hsz 2 s h]; omega
      · have := hrest s h; omega
  · rw [if_pos h0]
    refine scan_end fun s hs => hb _ 0 s h0 few_len ?_
    rcases List.mem_append.1 hs with h | h
    · rw [hsz 1 s h]; omega
    · rcases List.mem_append.1 h with h | h
      · rw [hsz 2 s h]; omega
      · have := hrest s h; omega
end
end Go.Proofs.Ythphpbdmbmiaiaa
/- Walks of package rod: fewest. Conditions: as each theorem states. -/
namespace Go.Proofs.Ythphpbdmbmiaiaa
open Go Go.HL Go.Proofs Go.Wx Go.Rd
section
variable [Lvl]
set_option maxRecDepth 100000
theorem op_loadW1' {P : Program} {n : Nat} {ops : Array Oper} {d : Option Tmp} {ty : TypeId} {ps : String} {af : Array Edge} {os : List Oper} {K : Sl → Pv → AH → Prop} {E : Value → Sl → Pv → AH → Prop} {S : Sl} {L : Pv} {h : AH} {t : TypeId} {x : Operand} {g off : Nat} {v : Value} (hx : ev n S x = .pointer (some ⟨g, off, none⟩)) (ha : pev P (isAgg t) = some false)
    (hc : Valid h L → Cells (wl h L) g off [v]) (k : wpL P n ops os K E (put S d v) L h) : wpL P n ops (⟨d, .load t x, ty, ps, af, none⟩ :: os) K E S L h := by
  refine op_of fun V => ?_
  unfold opW
  simp only [execOp, hx, Instr.loadAt, Instr.sureAddr]
  refine dem_bind (dem_pev_bind (a := ⟨g, off, none⟩) rfl (dem_pev_bind ha ?_))
  exact ⟨v, hc V 0 v rfl, L, h, rfl, V, k⟩
/-- An element of what has grown, where it lies. -/
theorem acc_at {α : Type} {e : TypeId} {m : Nat} {enc : α → List Value} {l : List α} {a : Acc} (r : AccR e m (l.flatMap enc) a) (hl : ∀ x ∈ l, (enc x).length = m) (hm : 0 < m) {i : Nat} (hi : i < l.length) :
    ∃ g, a.A = some ⟨g, 0, none⟩ ∧ ∀ (h : AH) (L : Pv) (j : Nat), L[j]? = some a.p → Valid h L → Cells (wl h L) g (0 + i * m) (enc l[i]) := by
  have hx : l[i]? = some l[i] := List.getElem?_eq_getElem hi
  have hfl := flat_len hl
  rcases r with ⟨_, e0, A, ev⟩ | ⟨b, len, cap, junk, hlen, ev, hpp, _⟩
  · exfalso
    rw [e0] at hfl
    have : 0 < l.length * m := Nat.mul_pos (by omega) hm
    simp at hfl
    omega
  · injection ev with h1 _ _
    refine ⟨b, h1, fun h L j hj V => ?_⟩
    rw [hpp] at hj
    intro q u hu
    have h2 := flat_get enc m l hl i l[i] hx q u hu
    have h3 : (l.flatMap enc ++ junk)[i * m + q]? = some u := by rw [List.getElem?_append_left (List.getElem?_eq_some_iff.1 h2).1]; exact h2
    simp only [cellA, wl_get V hj]
    rw [show 0 + i * m + q = i * m + q from by omega]
    simpa using h3
/-- What holds between the sets. -/
def ScanI (E : List Int → Bool) (all : List (List Int)) (p2 p3 p6 : Nat × Obj) (b7 l : Nat) (t7 te : TypeId) (r : Loop) (h0 : AH) (k : Nat) (h : AH) (M : Pv) : Prop :=
  Ext h0 h ∧ ∃ (a : Acc) (cs : List (List Value)) (out : List (List Int)), (scanF E out (all.drop k) = scanF E [] all ∧ out.length ≤ k) ∧ AccR te 1 (cs.flatMap id) a ∧ Els h TL out cs ∧ (∀ x ∈ cs, x.length = 1) ∧
    M = [some p2, some p3, some p6, some (b7, .cells #[.slice a.A a.n a.c] t7 (0, 0)), a.p, some (l, obL r .ready none)]
def ScanF (E : List Int → Bool) (all : List (List Int)) (p2 p3 p6 : Nat × Obj) (b7 l : Nat) (t7 te : TypeId) (r : Loop) (h0 : AH) (h : AH) (M : Pv) : Prop :=
  Ext h0 h ∧ ∃ (a : Acc) (cs : List (List Value)) (out : List (List Int)), (out = scanF E [] all ∧ out.length ≤ all.length) ∧ AccR te 1 (cs.flatMap id) a ∧ Els h TL out cs ∧ (∀ x ∈ cs, x.length = 1) ∧
    M = [some p2, some p3, some p6, some (b7, .cells #[.slice a.A a.n a.c] t7 (0, 0)), a.p, some (l, obL r .done (some (.exit 0)))]
theorem ScanI.ext {E : List Int → Bool} {all : List (List Int)} {p2 p3 p6 : Nat × Obj} {b7 l : Nat} {t7 te : TypeId} {r : Loop} {h0 h h' : AH} {k : Nat} {M : Pv} (I : ScanI E all p2 p3 p6 b7 l t7 te r h0 k h M) (X : Ext h h') : ScanI E all p2 p3 p6 b7 l t7 te r h0 k h' M := by
  obtain ⟨E0, a, cs, out, e1, e2, e3, e4, e5⟩ := I
  exact ⟨E0.trans X, a, cs, out, e1, e2, e3.ext TL.mono X, e4, e5⟩
theorem ScanF.ext {E : List Int → Bool} {all : List (List Int)} {p2 p3 p6 : Nat × Obj} {b7 l : Nat} {t7 te : TypeId} {r : Loop} {h0 h h' : AH} {M : Pv} (I : ScanF E all p2 p3 p6 b7 l t7 te r h0 h M) (X : Ext h h') : ScanF E all p2 p3 p6 b7 l t7 te r h0 h' M := by
  obtain ⟨E0, a, cs, out, e1, e2, e3, e4, e5⟩ := I
  exact ⟨E0.trans X, a, cs, out, e1, e2, e3.ext TL.mono X, e4, e5⟩
theorem setsM_len12 {n : Nat} (hn : n ≤ 12) : (setsM n).length ≤ 53248 := by
  have key : ∀ k, k ≤ n + 1 → (choP (fun m => chosM n m 0) 0 k).length ≤ k * 4096 := by
    intro k
    induction k with
    | zero => intro _; simp [choP_zero]
    | succ k ih =>
      intro hk
      have h0 := ih (by omega)
      have h1 := chos_len (n := n) (0 + k) 0
      have h2 : 2 ^ (n - 0) ≤ 2 ^ 12 := Nat.pow_le_pow_right (by omega) (by omega)
      rw [choP_succ, List.length_append, Nat.add_mul]
      omega
  have h := key (n + 1) (Nat.le_refl _)
  rw [setsM_eq]
  omega
set_option maxHeartbeats 8000000 in
theorem fewest_ok (hph : Lvl.ph = true) (m : MachP) (M : MOK m) (hn : (faultsM m).length ≤ 12) (hs : List HeardP) (X : ∀ x ∈ hs, HeardOK m x) (hl2 : hs.length < 2 ^ 40) (AB AQ AL AW UA : Option Addr) (cB cQ cL cW cU : Nat) (cs : List (List Value)) (h : AH) (RM : MachR h AB AQ AL AW m) (R : Row h 3 id UA cs) (EL : Els h TU hs cs) :
    FnT Try.prog 108 #[machV AB AQ AL AW cB cQ cL cW m, .slice UA hs.length cU] h (fun v h' => ∃ L, v = .tuple #[L, .bool (decide ((fewestL m hs).length > 0))] ∧ SlL h' (fewestL m hs) L) := by
  have mlv := M.levers
  have mpl := M.pl
  have mll := M.ll
  refine call_body Try.func108 rfl Try.ntmps108 rfl ?_
  refine xp_seq ?_
  refine xp_region rfl ?_
  refine op_box (v := .agg #[.int .i64 _, .int .i64 _, .int .i64 _, .int .i64 _, .int .i64 _, .slice _ _ _, .slice _ _ _, .slice _ _ _, .slice _ _ _]) (cs := [_, _, _, _, _, _, _, _, _]) rfl rfl fun b2 hb2 => ?_
  refine wp_norm [_] rfl ?_
  refine op_box (v := .slice _ _ _) (cs := [_]) rfl rfl fun b3 hb3 => ?_
  refine wp_norm [_, _] rfl ?_
  refine op_pure (pv_assign (v := .slice _ _ _) rfl) ?_
  refine op_pure (pv_assign (v := .bool _) rfl) ?_
  refine xp_seq ?_
  refine xp_region rfl ?_
  refine op_loadPA 0 (vs := [.int .i64 _, .int .i64 _, .int .i64 _, .int .i64 _, .int .i64 _, .slice _ _ _, .slice _ _ _, .slice _ _ _, .slice _ _ _]) rfl rfl rfl rfl rfl ?_
  refine op_fn (caps := []) (vs := [.agg #[.int .i64 _, .int .i64 _, .int .i64 _, .int .i64 _, .int .i64 _, .slice _ _ _, .slice _ _ _, .slice _ _ _, .slice _ _ _]]) rfl rfl rfl (faults_ok m (by omega) (by omega) (by omega) AB AQ AL AW cB cQ cL cW h) ?_
  rintro _ h4 E4 ⟨FA, cF, rfl, RF⟩
  refine op_alloc (cs := [_]) rfl rfl fun b6 hb6 => ?_
  refine wp_norm [_, _, _] rfl ?_
  refine op_storeP 2 (v := .slice _ _ _) (vs := [_]) (c' := [_]) rfl rfl rfl rfl rfl rfl rfl rfl rfl ?_
  refine wp_norm [_, _, _] rfl ?_
  refine xp_seq ?_
  refine xp_region rfl ?_
  refine op_alloc (cs := [_]) rfl rfl fun b7 hb7 => ?_
  refine wp_norm [_, _, _, _] rfl ?_
  refine goes_more ?_
  refine goes_norm [_, _, _, _, _] rfl ?_
  refine xp_seq ?_
  refine xp_seq ?_
  refine xp_region rfl ?_
  refine op_loadP 2 (v := .slice _ _ _) rfl rfl rfl rfl ?_
  refine op_pure (pv_len rfl rfl) ?_
  refine op_fn (caps := []) (vs := [.int .i64 _]) rfl rfl rfl (choices_ok (faultsM m).length (by omega) _ rfl h4) ?_
  rintro y h7 E7 It
  refine xp_block ?_
  obtain ⟨Ef, hEf⟩ : ∃ Ef : List Int → Bool, Ef = fun s => explainsB m (pickL m s) hs := ⟨_, rfl⟩
  obtain ⟨all, hall⟩ : ∃ all, all = setsM (faultsM m).length := ⟨_, rfl⟩
  have hal : all.length ≤ 53248 := by rw [hall]; exact setsM_len12 hn
  rw [show fewestL m hs = scanF Ef [] all by rw [hEf, hall]; rfl]
  rw [← hall] at It
  have E07 := (Ext.trans E4 E7)
  have RM7 := RM.ext (Ext.trans E4 E7)
  have RF7 := RF.ext E7
  have R7 := R.ext (Ext.trans E4 E7)
  have EL7 := EL.ext TU.mono (Ext.trans E4 E7)
  refine xp_rangeFunc rfl ?_
  intro r l lp htm hpr has hbd V0
  refine CallV.mono (It (.yield l) #[] #[] (ScanI Ef all (b2, .cells #[.int .i64 m.rods, .int .i64 m.levers, .int .i64 m.regs, .int .i64 m.travel, .int .i64 m.opn, .slice AB m.buttons.length cB, .slice AQ m.pins.length cQ, .slice AL m.links.length cL, .slice AW m.weights.length cW] 28 (0, 0)) (b3, .cells #[.slice UA hs.length cU] 68 (0, 0)) (b6, .cells #[.slice FA (faultsM m).length cF] 124 (0, 0)) b7 l 60 22 lp h7) (ScanF Ef all (b2, .cells #[.int .i64 m.rods, .int .i64 m.levers, .int .i64 m.regs, .int .i64 m.travel, .int .i64 m.opn, .slice AB m.buttons.length cB, .slice AQ m.pins.length cQ, .slice AL m.links.length cL, .slice AW m.weights.length cW] 28 (0, 0)) (b3, .cells #[.slice UA hs.length cU] 68 (0, 0)) (b6, .cells #[.slice FA (faultsM m).length cF] 124 (0, 0)) b7 l 60 22 lp h7) (fun k h1 h2 M E I => I.ext E) (fun h1 h2 M E I => I.ext E) ?_ h7 _ (Ext.refl _) ⟨Ext.refl _, acc0, [], [], ⟨rfl, Nat.le_refl _⟩, accR0, Els.nil _ _, fun _ hx => absurd hx List.not_mem_nil, rfl⟩ V0) ?_ (fun _ _ y => y)
  · rintro k s v hcl M' hk hT ⟨E9, a, ds, out, ⟨I1, I2⟩, I3, I4, I5, rfl⟩
    obtain ⟨BA, cBA, rfl, RB⟩ := hT
    obtain ⟨hkl, hke⟩ := List.getElem?_eq_some_iff.1 hk
    have hSs : SetOK s (faultsM m).length := setsM_set (by rw [← hall]; exact List.mem_of_getElem? hk)
    have hsl := set_len hSs
    rw [List.drop_eq_getElem_cons hkl, hke] at I1
    have hdl : (ds.flatMap id).length = out.length := by rw [flat_len (enc := id) (m := 1) I5, I4.1]; omega
    have han : a.n = out.length := by have := AccR.len I3; omega
    intro V
    refine callV_yield (wl_get V (i := 5) rfl) hpr rfl htm has hbd ?_
    refine round_enter (i := 5) (r := lp) ?_ V
    refine goes_norm [_, _, _, _, _, _] rfl ?_
    refine xp_region rfl ?_
    refine op_pure (pv_assign (v := .slice _ _ _) rfl) ?_
    refine ⟨rfl, none, rfl, ?_⟩
    refine goes_norm [_, _, _, _, _, _] rfl ?_
    refine xp_block ?_
    refine xp_seq ?_
    refine xp_cutB [15, 16, 17, 18, 19, 20, 21, 22, 23, 24, 25, 26, 27, 28, 29, 30, 31] 6 (α := Unit) (fun u => [(31, .bool (scanB out s))]) (fun u L => L) (fun u h_u => True) ?_ ?_
    · skip
      by_cases hA : 2 < s.length
      · have hA' : decide ((s.length : Int) > 2) = true := decide_eq_true (by omega)
        have hsb : scanB out s = true := by unfold scanB; simp; omega
        refine xp_region rfl ?_
        refine op_pure (pv_move (v := .slice _ _ _) rfl) ?_
        refine op_pure (pv_len rfl rfl) ?_
        refine op_pure (pv_of (v := .bool _) rfl) ?_
        refine op_pure (pv_move (v := .bool _) rfl) ?_
        refine guard_no rfl hA' ?_
        refine guard_no rfl hA' ?_
        refine guard_no rfl hA' ?_
        refine guard_no rfl hA' ?_
        refine guard_un rfl ?_
        refine guard_un rfl ?_
        refine guard_un rfl ?_
        refine guard_un rfl ?_
        refine guard_un rfl ?_
        refine guard_un rfl ?_
        refine guard_un rfl ?_
        refine guard_no rfl hA' ?_
        refine op_pure (pv_pickT rfl hA' (v := .bool _) rfl) ?_
        refine ⟨(), ⟨(by rw [hsb]; rfl), trivial⟩, rfl, rfl, (Ext.refl _), fun h3 E3 => by first | trivial | omega | (refine ⟨?_, ?_⟩ <;> omega), ?_⟩
        repeat (first | exact off_refl _ _ | exact off_base _ _ _ | refine off_upd (by decide) ?_ | refine off_updL rfl ?_ | refine off_mix rfl ?_)
      · have hA' : decide ((s.length : Int) > 2) = false := decide_eq_false (by omega)
        rcases Nat.eq_zero_or_pos out.length with h0 | h0
        · have hB' : decide ((a.n : Int) > 0) = false := decide_eq_false (by omega)
          have hsb : scanB out s = false := by rw [List.length_eq_zero_iff.1 h0]; unfold scanB; simp; omega
          refine xp_region rfl ?_
          refine op_pure (pv_move (v := .slice _ _ _) rfl) ?_
          refine op_pure (pv_len rfl rfl) ?_
          refine op_pure (pv_of (v := .bool _) rfl) ?_
          refine op_pure (pv_move (v := .bool _) rfl) ?_
          refine guard_yes rfl hA' ?_
          refine op_loadP 3 (v := .slice _ _ _) rfl rfl rfl rfl ?_
          refine guard_yes rfl hA' ?_
          refine op_pure (pv_len rfl rfl) ?_
          refine guard_yes rfl hA' ?_
          refine op_pure (pv_of (v := .bool _) rfl) ?_
          refine guard_yes rfl hA' ?_
          refine op_pure (pv_move (v := .bool _) rfl) ?_
          refine guard_no rfl hB' ?_
          refine guard_no rfl hB' ?_
          refine guard_no rfl hB' ?_
          refine guard_no rfl hB' ?_
          refine guard_no rfl hB' ?_
          refine guard_no rfl hB' ?_
          refine guard_no rfl hB' ?_
          refine guard_yes rfl hA' ?_
          refine op_pure (pv_pickF rfl hB' (v := .bool _) rfl) ?_
          refine op_pure (pv_pickF rfl hA' (v := .bool _) rfl) ?_
          refine ⟨(), ⟨(by rw [hsb]; rfl), trivial⟩, rfl, rfl, (Ext.refl _), fun h3 E3 => by first | trivial | omega | (refine ⟨?_, ?_⟩ <;> omega), ?_⟩
          repeat (first | exact off_refl _ _ | exact off_base _ _ _ | refine off_upd (by decide) ?_ | refine off_updL rfl ?_ | refine off_mix rfl ?_)
        · have hB' : decide ((a.n : Int) > 0) = true := decide_eq_true (by omega)
          have h0d : 0 < ds.length := by rw [I4.1]; exact h0
          obtain ⟨hoc, y0, e0, XA, cX, rfl, RX⟩ := I4.at h0
          obtain ⟨gq, hAs, hcs⟩ := acc_at (enc := id) I3 I5 (by omega) h0d
          have hid : id ds[0] = [.slice XA out[0].length cX] := e0
          have hsb : scanB out s = decide ((s.length : Int) > (out[0].length : Int)) := by
            have hh : out.headD [] = out[0] := by cases out with | nil => simp at h0 | cons _ _ => rfl
            unfold scanB
            rw [hh, Bool.eq_iff_iff]
            simp
            omega
          refine xp_region rfl ?_
          refine op_pure (pv_move (v := .slice _ _ _) rfl) ?_
          refine op_pure (pv_len rfl rfl) ?_
          refine op_pure (pv_of (v := .bool _) rfl) ?_
          refine op_pure (pv_move (v := .bool _) rfl) ?_
          refine guard_yes rfl hA' ?_
          refine op_loadP 3 (v := .slice _ _ _) rfl rfl rfl rfl ?_
          refine guard_yes rfl hA' ?_
          refine op_pure (pv_len rfl rfl) ?_
          refine guard_yes rfl hA' ?_
          refine op_pure (pv_of (v := .bool _) rfl) ?_
          refine guard_yes rfl hA' ?_
          refine op_pure (pv_move (v := .bool _) rfl) ?_
          refine guard_yes rfl hB' ?_
          refine op_pure (pv_move (v := .slice _ _ _) rfl) ?_
          refine guard_yes rfl hB' ?_
          refine op_pure (pv_len rfl rfl) ?_
          refine guard_yes rfl hB' ?_
          refine op_loadP 3 (v := .slice _ _ _) rfl rfl rfl rfl ?_
          refine guard_yes rfl hB' ?_
          refine op_pure (pv_indexE (m := 1) rfl hAs rfl rfl rfl (by omega) (by omega)) ?_
          refine guard_yes rfl hB' ?_
          refine op_loadW1' (v := .slice XA out[0].length cX) rfl rfl (fun V => by rw [← hid]; exact hcs _ _ 4 rfl V) ?_
          refine guard_yes rfl hB' ?_
          refine op_pure (pv_len rfl rfl) ?_
          refine guard_yes rfl hB' ?_
          refine op_pure (pv_of (v := .bool _) rfl) ?_
          refine guard_yes rfl hA' ?_
          refine op_pure (pv_pickT rfl hB' (v := .bool _) rfl) ?_
          refine op_pure (pv_pickF rfl hA' (v := .bool _) rfl) ?_
          refine ⟨(), ⟨(by rw [hsb]; rfl), trivial⟩, rfl, rfl, (Ext.refl _), fun h3 E3 => by first | trivial | omega | (refine ⟨?_, ?_⟩ <;> omega), ?_⟩
          repeat (first | exact off_refl _ _ | exact off_base _ _ _ | refine off_upd (by decide) ?_ | refine off_updL rfl ?_ | refine off_mix rfl ?_)
    · rintro u T1 h_u E_u J_u
      refine goes_norm [_, _, _, _, _, _] rfl ?_
      refine xp_cond rfl (fun hb => ?_) (fun hb => ?_)
      · skip
        have hst : scanF Ef out (s :: all.drop (k + 1)) = out := by rw [scanF, if_pos hb]
        refine xp_exit ?_
        intro V2
        have V3 := valid_set (o' := obL lp .done (some (.exit 0))) V2 (i := 5) rfl
        exact ⟨rfl, ⟨_, _, rfl⟩, _, _, rfl, V3, E_u, .inr ⟨rfl, Ext.trans E9 E_u, a, ds, out, ⟨hst.symm.trans I1, by omega⟩, I3, I4.ext TL.mono E_u, I5, rfl⟩⟩
      · skip
        have hst : scanF Ef out (s :: all.drop (k + 1)) = scanF Ef (if Ef s then out ++ [s] else out) (all.drop (k + 1)) := by rw [scanF, hb]; rfl
        have hpf := pickL_fok M (l := s) hSs.mem
        refine xp_skip ?_
        refine xp_seq ?_
        refine xp_dw [] rfl rfl rfl ?_
        refine dw_load (i := 0) rfl (by decide +kernel) ?_
        refine op_loadPA 0 (vs := [.int .i64 _, .int .i64 _, .int .i64 _, .int .i64 _, .int .i64 _, .slice _ _ _, .slice _ _ _, .slice _ _ _, .slice _ _ _]) rfl rfl rfl rfl rfl ?_
        refine dw_load (i := 1) rfl (by decide +kernel) ?_
        refine op_loadP 2 (v := .slice _ _ _) rfl rfl rfl rfl ?_
        refine dw_pure (i := 2) rfl (by decide +kernel) (pv_move (v := .slice _ _ _) rfl) ?_
        refine dw_load (i := 4) rfl (by decide +kernel) ?_
        refine op_loadP 1 (v := .slice _ _ _) rfl rfl rfl rfl ?_
        refine dw_eff (i := 3) rfl (by decide +kernel) ?_
        refine op_fn (caps := []) (vs := [.slice _ _ _, .slice _ _ _]) rfl rfl rfl (pick_ok (faultsM m) (by omega) s (by omega) (fun n hn => hSs.mem n hn) FA BA cF cBA h_u (RF7.ext (Ext.trans E9 E_u)) (RB.ext E_u)) ?_
        rintro _ h10 E10 ⟨PA, cP, rfl, RP⟩
        refine ⟨ext_wlm E10 _, ?_⟩
        refine dw_last (i := 5) rfl (by decide +kernel) (by decide +kernel) ?_
        refine op_fn (caps := []) (vs := [.agg #[.int .i64 _, .int .i64 _, .int .i64 _, .int .i64 _, .int .i64 _, .slice _ _ _, .slice _ _ _, .slice _ _ _, .slice _ _ _], .slice _ _ _, .slice _ _ _]) rfl rfl rfl (explains_ok hph m M (pickL m s) hpf (by rw [pickL, List.length_map]; omega) hs X hl2 AB AQ AL AW PA UA cB cQ cL cW cP cU cs h10 (RM7.ext (Ext.trans E9 (Ext.trans E_u E10))) RP (R7.ext (Ext.trans E9 (Ext.trans E_u E10))) (EL7.ext TU.mono (Ext.trans E9 (Ext.trans E_u E10)))) ?_
        rintro _ h11 E11 rfl
        rw [show explainsB m (pickL m s) hs = Ef s by rw [hEf]]
        refine dw_end rfl ?_
        refine xp_cond rfl (fun he => ?_) (fun he => ?_)
        · skip
          rw [if_pos he] at hst
          refine xp_region rfl ?_
          refine op_loadP 3 (v := .slice _ _ _) rfl rfl rfl rfl ?_
          refine op_pure (pv_move (v := .slice _ _ _) rfl) ?_
          refine op_buildSlice (zc := [_]) (vs := [(0, .slice _ _ _)]) (cs := [_]) rfl rfl rfl rfl rfl rfl rfl fun b40 hb40 => ?_
          refine wp_norm [_, _, _, _, _, _, _] rfl ?_
          refine op_appendR 4 I3 rfl rfl rfl (fun V => rdP V (i := 6) rfl) rfl rfl rfl rfl rfl rfl rfl rfl rfl (by omega) rfl (by rw [hdl]; simp; omega) fun a2 h2a E2a ha2 => ?_
          refine wp_norm [_, _, _, _, _, _, _] rfl ?_
          refine op_storeP 3 (v := .slice _ _ _) (vs := [_]) (c' := [_]) rfl rfl rfl rfl rfl rfl rfl rfl rfl ?_
          refine wp_norm [_, _, _, _, _, _, _] rfl ?_
          intro V2
          have V3 := valid_set (o' := obL lp .ready none) V2 (i := 5) rfl
          obtain ⟨h99, E99, e9, V9⟩ := wl_drop [_] [_, _, _, _, _, _] V3
          exact ⟨rfl, ⟨_, _, rfl⟩, h99, _, e9, V9, Ext.trans (Ext.trans (Ext.trans (Ext.trans E_u E10) E11) E2a) E99, .inl ⟨rfl, Ext.trans E9 (Ext.trans (Ext.trans (Ext.trans (Ext.trans E_u E10) E11) E2a) E99), a2, ds ++ [[.slice BA s.length cBA]], out ++ [s], ⟨hst.symm.trans I1, by simp; omega⟩, by rw [List.flatMap_append]; exact ha2, ((I4.ext TL.mono (Ext.trans (Ext.trans (Ext.trans E_u E10) E11) E2a)).snoc ⟨_, rfl, BA, cBA, rfl, RB.ext (Ext.trans (Ext.trans (Ext.trans E_u E10) E11) E2a)⟩).ext TL.mono E99, one_len I5 rfl, rfl⟩⟩
        · skip
          rw [if_neg (by rw [he]; decide)] at hst
          refine xp_skip ?_
          intro V2
          have V3 := valid_set (o' := obL lp .ready none) V2 (i := 5) rfl
          exact ⟨rfl, ⟨_, _, rfl⟩, _, _, rfl, V3, (Ext.trans (Ext.trans E_u E10) E11), .inl ⟨rfl, Ext.trans E9 (Ext.trans (Ext.trans E_u E10) E11), a, ds, out, ⟨hst.symm.trans I1, by omega⟩, I3, I4.ext TL.mono (Ext.trans (Ext.trans E_u E10) E11), I5, rfl⟩⟩
  · rintro v H ⟨h', M', rfl, V', E', ⟨E9, a, ds, out, ⟨I1, I2⟩, I3, I4, I5, rfl⟩ | ⟨E9, a, ds, out, ⟨I1, I2⟩, I3, I4, I5, rfl⟩⟩
    rotate_left
    · refine ⟨h', [_, _, _, _, _], .done, some (.exit 0), rfl, V', by simp, fun h'' E'' => ?_⟩
      obtain ⟨p8, A8, n8, c8⟩ := a
      obtain rfl : n8 = out.length := by have := AccR.len I3; rw [flat_len (enc := id) (m := 1) I5, I4.1] at this; dsimp only at this; omega
      dsimp only at *
      rw [← I1]
      refine xp_exit ?_
      refine goes_norm [_, _, _, _, _] rfl ?_
      refine xp_seq ?_
      refine xp_dw [] rfl rfl rfl ?_
      refine dw_load (i := 0) rfl (by decide +kernel) ?_
      refine op_loadP 3 (v := .slice _ _ _) rfl rfl rfl rfl ?_
      refine dw_load (i := 1) rfl (by decide +kernel) ?_
      refine op_loadP 3 (v := .slice _ _ _) rfl rfl rfl rfl ?_
      refine dw_pure (i := 2) rfl (by decide +kernel) (pv_len rfl rfl) ?_
      refine dw_pure (i := 3) rfl (by decide +kernel) (pv_of (v := .bool _) rfl) ?_
      refine dw_pure (i := 4) rfl (by decide +kernel) (pv_assign (v := .slice _ _ _) rfl) ?_
      refine dw_pure (i := 5) rfl (by decide +kernel) (pv_assign (v := .bool _) rfl) ?_
      refine dw_end rfl ?_
      refine xp_ret ?_
      refine res_listM (vs := [_, _]) rfl Try.results108 ⟨resV_tmp rfl rfl, resV_tmp rfl rfl, trivial⟩ fun hM EM V => ?_
      exact ⟨Ext.trans (Ext.trans (Ext.trans (Ext.trans E4 E7) E') E'') (Ext.trans EM (ext_wl V)), _, by simp; rfl, SlX.acc (i := 4) I3 (by omega) I5 V rfl (I4.ext TL.mono (Ext.trans E'' (Ext.trans EM (ext_wl V))))⟩
    · refine ⟨h', [_, _, _, _, _], .ready, none, rfl, V', by simp, fun h'' E'' => ?_⟩
      have hst : out = scanF Ef [] all := by rw [List.drop_of_length_le (by omega)] at I1; exact I1
      obtain ⟨p8, A8, n8, c8⟩ := a
      obtain rfl : n8 = out.length := by have := AccR.len I3; rw [flat_len (enc := id) (m := 1) I5, I4.1] at this; dsimp only at this; omega
      dsimp only at *
      rw [← hst]
      refine goes_norm [_, _, _, _, _] rfl ?_
      refine xp_seq ?_
      refine xp_dw [] rfl rfl rfl ?_
      refine dw_load (i := 0) rfl (by decide +kernel) ?_
      refine op_loadP 3 (v := .slice _ _ _) rfl rfl rfl rfl ?_
      refine dw_load (i := 1) rfl (by decide +kernel) ?_
      refine op_loadP 3 (v := .slice _ _ _) rfl rfl rfl rfl ?_
      refine dw_pure (i := 2) rfl (by decide +kernel) (pv_len rfl rfl) ?_
      refine dw_pure (i := 3) rfl (by decide +kernel) (pv_of (v := .bool _) rfl) ?_
      refine dw_pure (i := 4) rfl (by decide +kernel) (pv_assign (v := .slice _ _ _) rfl) ?_
      refine dw_pure (i := 5) rfl (by decide +kernel) (pv_assign (v := .bool _) rfl) ?_
      refine dw_end rfl ?_
      refine xp_ret ?_
      refine res_listM (vs := [_, _]) rfl Try.results108 ⟨resV_tmp rfl rfl, resV_tmp rfl rfl, trivial⟩ fun hM EM V => ?_
      exact ⟨Ext.trans (Ext.trans (Ext.trans (Ext.trans E4 E7) E') E'') (Ext.trans EM (ext_wl V)), _, by simp; rfl, SlX.acc (i := 4) I3 (by omega) I5 V rfl (I4.ext TL.mono (Ext.trans E'' (Ext.trans EM (ext_wl V))))⟩
end
end Go.Proofs.Ythphpbdmbmiaiaa
/- Walks of package rod: Fewest, Blame. Conditions: as each theorem states. -/
namespace Go.Proofs.Ythphpbdmbmiaiaa
open Go Go.HL Go.Proofs Go.Wx Go.Rd
section
variable [Lvl]
set_option maxRecDepth 100000
theorem Fewest_ok (hph : Lvl.ph = true) (m : MachP) (M : MOK m) (hn : (faultsM m).length ≤ 12) (hs : List HeardP) (hl5 : hs.length ≤ 5) (X : ∀ x ∈ hs, HeardOK m x) (hne : 0 < (fewestL m hs).length) (AB AQ AL AW UA : Option Addr) (cB cQ cL cW cU : Nat) (cs : List (List Value)) (h : AH) (RM : MachR h AB AQ AL AW m) (R : Row h 3 id UA cs) (EL : Els h TU hs cs) :
    FnT Try.prog 68 #[machV AB AQ AL AW cB cQ cL cW m, .slice UA hs.length cU] h (fun v h' => ∃ L, v = .tuple #[L, .int .i64 0] ∧ SlR h' 1 intC ((fewestL m hs)[0]'hne) L) := by
  have hE := heardE_of M hl5 X
  have L1 := checkHeard_ok m hs (hlen_of hl5 M X) AB AQ AL AW UA cB cQ cL cW cU cs
  rw [hE] at L1
  have L2 := fewest_ok hph m M hn hs X (by omega) AB AQ AL AW UA cB cQ cL cW cU cs
  rw [decide_eq_true hne] at L2
  obtain ⟨F, hF⟩ : ∃ F, F = fewestL m hs := ⟨_, rfl⟩
  rw [← hF] at L2
  have hne' : 0 < F.length := by rw [hF]; exact hne
  rw [show (fewestL m hs)[0]'hne = F[0]'hne' by congr 1; exact hF.symm]
  refine call_body Try.func68 rfl Try.ntmps68 rfl ?_
  refine xp_seq ?_
  refine xp_region rfl ?_
  refine op_box (v := .agg #[.int .i64 _, .int .i64 _, .int .i64 _, .int .i64 _, .int .i64 _, .slice _ _ _, .slice _ _ _, .slice _ _ _, .slice _ _ _]) (cs := [_, _, _, _, _, _, _, _, _]) rfl rfl fun b2 hb2 => ?_
  refine wp_norm [_] rfl ?_
  refine op_pure (pv_assign (v := .slice _ _ _) rfl) ?_
  refine op_pure (pv_assign (v := .int .i64 _) rfl) ?_
  refine xp_seq ?_
  refine xp_seq ?_
  refine xp_region rfl ?_
  refine op_loadPA 0 (vs := [.int .i64 _, .int .i64 _, .int .i64 _, .int .i64 _, .int .i64 _, .slice _ _ _, .slice _ _ _, .slice _ _ _, .slice _ _ _]) rfl rfl rfl rfl rfl ?_
  refine op_pure (pv_move (v := .slice _ _ _) rfl) ?_
  refine op_fn (caps := []) (vs := [.agg #[.int .i64 _, .int .i64 _, .int .i64 _, .int .i64 _, .int .i64 _, .slice _ _ _, .slice _ _ _, .slice _ _ _, .slice _ _ _], .slice _ _ _]) rfl rfl rfl (L1 h (RM.ext (Ext.refl _)) M.wlen (R.ext (Ext.refl _)) (EL.ext TU.mono (Ext.refl _))) ?_
  rintro _ h3 E13 rfl
  refine op_pure (pv_assign (v := .int .i64 _) rfl) ?_
  refine xp_seq ?_
  refine xp_region rfl ?_
  refine op_pure (pv_move (v := .int .i64 _) rfl) ?_
  refine op_pure (pv_of (v := .bool _) rfl) ?_
  refine xp_condF rfl (rfl) ?_
  refine xp_skip ?_
  refine xp_seq ?_
  refine xp_region rfl ?_
  refine op_loadPA 0 (vs := [.int .i64 _, .int .i64 _, .int .i64 _, .int .i64 _, .int .i64 _, .slice _ _ _, .slice _ _ _, .slice _ _ _, .slice _ _ _]) rfl rfl rfl rfl rfl ?_
  refine op_pure (pv_move (v := .slice _ _ _) rfl) ?_
  refine op_fn (caps := []) (vs := [.agg _, .slice _ _ _]) rfl rfl rfl (L2 h3 (RM.ext E13) (R.ext E13) (EL.ext TU.mono E13)) ?_
  rintro _ h4 E4 ⟨_, rfl, S4⟩
  obtain ⟨gs, A4, c4, rfl, R4, EL4⟩ := SlX.els S4
  refine op_pure (pv_move (v := .tuple #[.slice _ _ _, .bool _]) rfl) ?_
  refine op_pure (pv_of (v := .slice _ _ _) rfl) ?_
  refine op_pure (pv_of (v := .bool _) rfl) ?_
  refine op_pure (pv_assign (v := .slice _ _ _) rfl) ?_
  refine op_pure (pv_assign (v := .bool _) rfl) ?_
  refine xp_seq ?_
  refine xp_seq ?_
  refine xp_region rfl ?_
  refine op_pure (pv_move (v := .bool _) rfl) ?_
  refine op_pure (pv_of (v := .bool _) rfl) ?_
  refine xp_condF rfl (rfl) ?_
  obtain ⟨hic, y0, e0, XA, cX, rfl, RX⟩ := EL4.at hne'
  obtain ⟨g, off, hA, hc⟩ := R4.at (by omega) hic
  have hc : Cells h4 g (off + 0 * 1) [.slice XA F[0].length cX] := by rw [← e0]; exact hc
  refine xp_skip ?_
  refine xp_seq ?_
  refine xp_region rfl ?_
  refine op_pure (pv_move (v := .slice _ _ _) rfl) ?_
  refine op_pure (pv_indexE (m := 1) rfl hA rfl rfl rfl (by omega) (by omega)) ?_
  refine op_load (v := .slice _ _ _) rfl rfl ((hc) 0 _ rfl) ?_
  refine op_pure (pv_assign (v := .slice _ _ _) rfl) ?_
  refine op_pure (pv_assign (v := .int .i64 _) rfl) ?_
  refine xp_ret ?_
  refine res_list (vs := [_, _]) Try.results68 ⟨resV_tmp rfl rfl, resV_tmp rfl rfl, trivial⟩ fun V => ?_
  exact ⟨(Ext.trans (Ext.trans E13 E4) (ext_wl V)), _, rfl, XA, cX, rfl, RX.ext (ext_wl V)⟩
def inN (out : List (List Int)) (f : Int) (k : Nat) : Nat := (out.take k).countP fun s => decide (f ∈ s)
def valB (n len : Nat) : Int := if n = len then 1 else if n = 0 then 2 else 3
def blameK (out : List (List Int)) (k : Nat) : List Int := (List.range k).map fun f : Nat => valB (inN out f out.length) out.length
theorem inN_succ {out : List (List Int)} {f : Int} {k : Nat} (hk : k < out.length) : inN out f (k + 1) = inN out f k + if f ∈ out[k] then 1 else 0 := by
  unfold inN
  rw [take_snoc hk, List.countP_append, List.countP_cons]
  simp
theorem inN_le (out : List (List Int)) (f : Int) (k : Nat) : inN out f k ≤ out.length := by
  unfold inN
  have := List.countP_le_length (p := fun s : List Int => decide (f ∈ s)) (l := out.take k)
  rw [List.length_take] at this
  omega
theorem blameK_succ (out : List (List Int)) (k : Nat) : blameK out (k + 1) = blameK out k ++ [valB (inN out k out.length) out.length] := by simp [blameK, List.range_succ]
set_option maxHeartbeats 4000000 in
theorem Blame_ok (hph : Lvl.ph = true) (m : MachP) (M : MOK m) (hn : (faultsM m).length ≤ 12) (hs : List HeardP) (hl5 : hs.length ≤ 5) (X : ∀ x ∈ hs, HeardOK m x) (hne : 0 < (fewestL m hs).length) (hsz : ∀ s ∈ fewestL m hs, s.length < 2 ^ 40) (hfl : (fewestL m hs).length < 2 ^ 40) (AB AQ AL AW UA : Option Addr) (cB cQ cL cW cU : Nat) (cs : List (List Value)) (h : AH) (RM : MachR h AB AQ AL AW m) (R : Row h 3 id UA cs) (EL : Els h TU hs cs) :
    FnT Try.prog 69 #[machV AB AQ AL AW cB cQ cL cW m, .slice UA hs.length cU] h (fun v h' => ∃ L, v = .tuple #[L, .int .i64 0] ∧ SlR h' 1 intC (blameK (fewestL m hs) (faultsM m).length) L) := by
  have mlv := M.levers
  have mpl := M.pl
  have mll := M.ll
  have hE := heardE_of M hl5 X
  have L1 := checkHeard_ok m hs (hlen_of hl5 M X) AB AQ AL AW UA cB cQ cL cW cU cs
  rw [hE] at L1
  have L2 := fewest_ok hph m M hn hs X (by omega) AB AQ AL AW UA cB cQ cL cW cU cs
  rw [decide_eq_true hne] at L2
  obtain ⟨F, hF⟩ : ∃ F, F = fewestL m hs := ⟨_, rfl⟩
  rw [← hF] at L2 hne hsz hfl ⊢
  refine call_body Try.func69 rfl Try.ntmps69 rfl ?_
  refine xp_seq ?_
  refine xp_region rfl ?_
  refine op_box (v := .agg #[.int .i64 _, .int .i64 _, .int .i64 _, .int .i64 _, .int .i64 _, .slice _ _ _, .slice _ _ _, .slice _ _ _, .slice _ _ _]) (cs := [_, _, _, _, _, _, _, _, _]) rfl rfl fun b2 hb2 => ?_
  refine wp_norm [_] rfl ?_
  refine op_pure (pv_assign (v := .slice _ _ _) rfl) ?_
  refine op_pure (pv_assign (v := .int .i64 _) rfl) ?_
  refine xp_seq ?_
  refine xp_seq ?_
  refine xp_region rfl ?_
  refine op_loadPA 0 (vs := [.int .i64 _, .int .i64 _, .int .i64 _, .int .i64 _, .int .i64 _, .slice _ _ _, .slice _ _ _, .slice _ _ _, .slice _ _ _]) rfl rfl rfl rfl rfl ?_
  refine op_pure (pv_move (v := .slice _ _ _) rfl) ?_
  refine op_fn (caps := []) (vs := [.agg #[.int .i64 _, .int .i64 _, .int .i64 _, .int .i64 _, .int .i64 _, .slice _ _ _, .slice _ _ _, .slice _ _ _, .slice _ _ _], .slice _ _ _]) rfl rfl rfl (L1 h (RM.ext (Ext.refl _)) M.wlen (R.ext (Ext.refl _)) (EL.ext TU.mono (Ext.refl _))) ?_
  rintro _ h3 E13 rfl
  refine op_pure (pv_assign (v := .int .i64 _) rfl) ?_
  refine xp_seq ?_
  refine xp_region rfl ?_
  refine op_pure (pv_move (v := .int .i64 _) rfl) ?_
  refine op_pure (pv_of (v := .bool _) rfl) ?_
  refine xp_condF rfl (rfl) ?_
  refine xp_skip ?_
  refine xp_seq ?_
  refine xp_region rfl ?_
  refine op_loadPA 0 (vs := [.int .i64 _, .int .i64 _, .int .i64 _, .int .i64 _, .int .i64 _, .slice _ _ _, .slice _ _ _, .slice _ _ _, .slice _ _ _]) rfl rfl rfl rfl rfl ?_
  refine op_pure (pv_move (v := .slice _ _ _) rfl) ?_
  refine op_fn (caps := []) (vs := [.agg _, .slice _ _ _]) rfl rfl rfl (L2 h3 (RM.ext E13) (R.ext E13) (EL.ext TU.mono E13)) ?_
  rintro _ h4 E4 ⟨_, rfl, S4⟩
  obtain ⟨gs, A4, c4, rfl, R4, EL4⟩ := SlX.els S4
  refine op_pure (pv_move (v := .tuple #[.slice _ _ _, .bool _]) rfl) ?_
  refine op_pure (pv_of (v := .slice _ _ _) rfl) ?_
  refine op_pure (pv_of (v := .bool _) rfl) ?_
  refine op_pure (pv_assign (v := .slice _ _ _) rfl) ?_
  refine op_pure (pv_assign (v := .bool _) rfl) ?_
  refine xp_seq ?_
  refine xp_seq ?_
  refine xp_region rfl ?_
  refine op_pure (pv_move (v := .bool _) rfl) ?_
  refine op_pure (pv_of (v := .bool _) rfl) ?_
  refine xp_condF rfl (rfl) ?_
  refine xp_skip ?_
  refine goes_more ?_
  refine goes_norm [_, _] rfl ?_
  refine xp_seq ?_
  refine xp_region rfl ?_
  refine op_pure (pv_assign (v := .slice _ _ _) rfl) ?_
  refine xp_seq ?_
  refine xp_seq ?_
  refine xp_region rfl ?_
  refine op_loadPA 0 (vs := [.int .i64 _, .int .i64 _, .int .i64 _, .int .i64 _, .int .i64 _, .slice _ _ _, .slice _ _ _, .slice _ _ _, .slice _ _ _]) rfl rfl rfl rfl rfl ?_
  refine op_fn (caps := []) (vs := [.agg #[.int .i64 _, .int .i64 _, .int .i64 _, .int .i64 _, .int .i64 _, .slice _ _ _, .slice _ _ _, .slice _ _ _, .slice _ _ _]]) rfl rfl rfl (faults_ok m (by omega) (by omega) (by omega) AB AQ AL AW cB cQ cL cW h4) ?_
  rintro _ h5 E5 ⟨FA, cF, rfl, RF⟩
  refine op_pure (pv_len rfl rfl) ?_
  refine op_pure (pv_move (v := .int .i64 _) rfl) ?_
  refine xp_block ?_
  refine xp_loopL [9, 10, 11, 13, 31, 32, 33, 34, 35, 36, 37, 38, 39, 40, 41, 42, 43, 44, 45, 46, 47, 48, 49, 50, 51, 52, 53, 54, 55, 56, 57, 58, 59, 60, 61, 62] 2 (α := Nat × Acc) (fun ⟨k, a⟩ => [(31, .int .i64 k), (9, .slice a.A a.n a.c)]) (fun ⟨k, a⟩ L => L.set 1 (a.p)) (fun ⟨k, a⟩ h_k => k ≤ (faultsM m).length ∧ AccR 3 1 ((blameK F k).flatMap intC) a) (fun ⟨k, a⟩ => (faultsM m).length - k) ((0, acc0)) ⟨rfl, rfl, trivial⟩ (rfl) (⟨Nat.zero_le _, accR0⟩) ?_
  rintro ⟨k, a⟩ T1 h_k E_k J_k
  refine goes_norm [_, _] rfl ?_
  obtain ⟨K1, K2⟩ := J_k
  refine xp_seq ?_
  refine xp_region rfl ?_
  refine op_pure (pv_of (v := .bool _) rfl) ?_
  refine xp_seq ?_
  refine xp_cond rfl (fun hk => ?_) (fun hk => ?_)
  · skip
    have hkl : k < (faultsM m).length := ltI hk
    have hbl : (blameK F k).length = k := by simp [blameK]
    have hile := inN_le F (k : Int) F.length
    refine xp_skip ?_
    refine xp_seq ?_
    refine xp_block ?_
    refine xp_seq ?_
    refine xp_region rfl ?_
    refine op_pure (pv_move (v := .int .i64 _) rfl) ?_
    refine op_pure (pv_assign (v := .int .i64 _) rfl) ?_
    refine xp_seq ?_
    refine xp_region rfl ?_
    refine op_pure (pv_assign (v := .int .i64 _) rfl) ?_
    refine xp_seq ?_
    refine xp_seq ?_
    refine xp_region rfl ?_
    refine op_pure (pv_move (v := .slice _ _ _) rfl) ?_
    refine op_pure (pv_len rfl rfl) ?_
    refine op_pure (pv_move (v := .int .i64 _) rfl) ?_
    refine xp_block ?_
    refine xp_loopB [11, 13, 36, 37, 38, 39, 40, 41, 42, 43, 44, 45] 2 (α := Nat) (fun q => [(36, .int .i64 q), (11, .int .i64 (inN F (k : Int) q : Nat))]) (fun q => _) (fun q h_q => q ≤ F.length) (fun q => F.length - q) (0) ⟨rfl, rfl, trivial⟩ (rfl) (Nat.zero_le _) ?_
    rintro q T2 h_q E_q J_q
    refine goes_norm [_, _] rfl ?_
    refine xp_seq ?_
    refine xp_region rfl ?_
    refine op_pure (pv_of (v := .bool _) rfl) ?_
    refine xp_seq ?_
    refine xp_cond rfl (fun hq => ?_) (fun hq => ?_)
    · skip
      have hql : q < F.length := ltI hq
      have hst := inN_succ (f := (k : Int)) hql
      have hle := inN_le F (k : Int) q
      obtain ⟨hic, y0, e0, XA, cX, rfl, RX⟩ := (EL4.ext TL.mono (Ext.trans (Ext.trans E5 E_k) E_q)).at hql
      obtain ⟨g, off, hA, hc⟩ := (R4.ext (Ext.trans (Ext.trans E5 E_k) E_q)).at (by omega) hic
      have hc : Cells h_q g (off + q * 1) [.slice XA F[q].length cX] := by rw [← e0]; exact hc
      refine xp_skip ?_
      refine xp_seq ?_
      refine xp_block ?_
      refine xp_seq ?_
      refine xp_region rfl ?_
      refine op_pure (pv_indexE (m := 1) rfl hA rfl rfl rfl (by omega) (by omega)) ?_
      refine op_load (v := .slice _ _ _) rfl rfl ((hc) 0 _ rfl) ?_
      refine op_pure (pv_assign (v := .slice _ _ _) rfl) ?_
      refine xp_seq ?_
      refine xp_region rfl ?_
      refine op_pure (pv_move (v := .slice _ _ _) rfl) ?_
      refine op_pure (pv_move (v := .int .i64 _) rfl) ?_
      refine op_fn (caps := []) (vs := [.slice _ _ _, .int .i64 _]) rfl rfl rfl (contains_ok F[q] k XA cX h_q RX (hsz _ (List.getElem_mem hql))) ?_
      rintro _ h6 E6 rfl
      refine xp_cond rfl (fun hi => ?_) (fun hi => ?_)
      · skip
        rw [if_pos (of_decide_eq_true hi)] at hst
        refine xp_region rfl ?_
        refine op_pure (pv_move (v := .int .i64 _) rfl) ?_
        refine op_pure (pv_arith rfl (by omega)) ?_
        refine op_pure (pv_assign (v := .int .i64 _) rfl) ?_
        refine xp_region rfl ?_
        refine op_pure (pv_arith rfl (by omega)) ?_
        refine op_pure (pv_move (v := .int .i64 _) rfl) ?_
        refine ⟨q + 1, ⟨rfl, intE (by rw [hst]; omega), trivial⟩, rfl, rfl, (Ext.trans E_q E6), fun h3 E3 => hql, by first | omega | (dsimp only; omega), ?_⟩
        repeat (first | exact off_base _ _ _ | refine off_upd (by decide) ?_ | refine off_updL rfl ?_ | refine off_mix rfl ?_)
      · skip
        rw [if_neg (of_decide_eq_false hi)] at hst
        refine xp_skip ?_
        refine xp_region rfl ?_
        refine op_pure (pv_arith rfl (by omega)) ?_
        refine op_pure (pv_move (v := .int .i64 _) rfl) ?_
        refine ⟨q + 1, ⟨rfl, intE (by rw [hst]; omega), trivial⟩, rfl, rfl, (Ext.trans E_q E6), fun h3 E3 => hql, by first | omega | (dsimp only; omega), ?_⟩
        repeat (first | exact off_base _ _ _ | refine off_upd (by decide) ?_ | refine off_updL rfl ?_ | refine off_mix rfl ?_)
    · skip
      have hqe : q = F.length := by have := geI hq; omega
      subst hqe
      have hbs := blameK_succ F k
      refine xp_exit ?_
      refine xp_seq ?_
      refine xp_region rfl ?_
      refine op_pure (pv_move (v := .int .i64 _) rfl) ?_
      refine xp_block ?_
      refine xp_seq ?_
      refine xp_region rfl ?_
      refine op_pure (pv_move (v := .slice _ _ _) rfl) ?_
      refine op_pure (pv_len rfl rfl) ?_
      refine op_pure (pv_of (v := .bool _) rfl) ?_
      refine op_pure (pv_assign (v := .bool _) rfl) ?_
      refine xp_cond rfl (fun h1 => ?_) (fun h1 => ?_)
      · skip
        have h1' : inN F (k : Int) F.length = F.length := by simp at h1; omega
        rw [valB, if_pos h1'] at hbs
        refine xp_region rfl ?_
        refine op_pure (pv_move (v := .slice _ _ _) rfl) ?_
        refine op_buildSlice (zc := [_]) (vs := [(0, .int .i64 _)]) (cs := [_]) rfl rfl rfl rfl rfl rfl rfl fun b55 hb55 => ?_
        refine wp_norm [_, _, _] rfl ?_
        refine op_appendR 1 K2 rfl rfl rfl (fun V => rdP V (i := 2) rfl) rfl rfl rfl rfl rfl rfl rfl rfl rfl (by omega) rfl (by rw [flat_len (m := 1) (fun _ _ => rfl), hbl]; simp; omega) fun a2 h3a E3a ha2 => ?_
        refine wp_norm [_, _, _] rfl ?_
        refine op_pure (pv_assign (v := .slice _ _ _) rfl) ?_
        refine xp_region rfl ?_
        refine op_pure (pv_arith rfl (by omega)) ?_
        refine op_pure (pv_move (v := .int .i64 _) rfl) ?_
        refine ⟨(k + 1, a2), ⟨rfl, rfl, trivial⟩, rfl, rfl, (Ext.trans (Ext.trans E_k E_q) E3a), fun h3 E3 => ⟨hkl, by rw [hbs, List.flatMap_append]; exact ha2⟩, by first | omega | (dsimp only; omega), ?_⟩
        repeat (first | exact off_base _ _ _ | refine off_upd (by decide) ?_ | refine off_updL rfl ?_ | refine off_mix rfl ?_)
      · skip
        have h1' : ¬ inN F (k : Int) F.length = F.length := by simp at h1; omega
        rw [valB, if_neg h1'] at hbs
        refine xp_seq ?_
        refine xp_region rfl ?_
        refine op_pure (pv_of (v := .bool _) rfl) ?_
        refine op_pure (pv_assign (v := .bool _) rfl) ?_
        refine xp_cond rfl (fun h2 => ?_) (fun h2 => ?_)
        · skip
          have h2' : inN F (k : Int) F.length = 0 := by simp at h2; omega
          rw [if_pos h2'] at hbs
          refine xp_region rfl ?_
          refine op_pure (pv_move (v := .slice _ _ _) rfl) ?_
          refine op_buildSlice (zc := [_]) (vs := [(0, .int .i64 _)]) (cs := [_]) rfl rfl rfl rfl rfl rfl rfl fun b60 hb60 => ?_
          refine wp_norm [_, _, _] rfl ?_
          refine op_appendR 1 K2 rfl rfl rfl (fun V => rdP V (i := 2) rfl) rfl rfl rfl rfl rfl rfl rfl rfl rfl (by omega) rfl (by rw [flat_len (m := 1) (fun _ _ => rfl), hbl]; simp; omega) fun a2 h4a E4a ha2 => ?_
          refine wp_norm [_, _, _] rfl ?_
          refine op_pure (pv_assign (v := .slice _ _ _) rfl) ?_
          refine xp_region rfl ?_
          refine op_pure (pv_arith rfl (by omega)) ?_
          refine op_pure (pv_move (v := .int .i64 _) rfl) ?_
          refine ⟨(k + 1, a2), ⟨rfl, rfl, trivial⟩, rfl, rfl, (Ext.trans (Ext.trans E_k E_q) E4a), fun h3 E3 => ⟨hkl, by rw [hbs, List.flatMap_append]; exact ha2⟩, by first | omega | (dsimp only; omega), ?_⟩
          repeat (first | exact off_base _ _ _ | refine off_upd (by decide) ?_ | refine off_updL rfl ?_ | refine off_mix rfl ?_)
        · skip
          have h2' : ¬ inN F (k : Int) F.length = 0 := by simp at h2; omega
          rw [if_neg h2'] at hbs
          refine xp_region rfl ?_
          refine op_pure (pv_move (v := .slice _ _ _) rfl) ?_
          refine op_buildSlice (zc := [_]) (vs := [(0, .int .i64 _)]) (cs := [_]) rfl rfl rfl rfl rfl rfl rfl fun b48 hb48 => ?_
          refine wp_norm [_, _, _] rfl ?_
          refine op_appendR 1 K2 rfl rfl rfl (fun V => rdP V (i := 2) rfl) rfl rfl rfl rfl rfl rfl rfl rfl rfl (by omega) rfl (by rw [flat_len (m := 1) (fun _ _ => rfl), hbl]; simp; omega) fun a2 h5a E5a ha2 => ?_
          refine wp_norm [_, _, _] rfl ?_
          refine op_pure (pv_assign (v := .slice _ _ _) rfl) ?_
          refine xp_region rfl ?_
          refine op_pure (pv_arith rfl (by omega)) ?_
          refine op_pure (pv_move (v := .int .i64 _) rfl) ?_
          refine ⟨(k + 1, a2), ⟨rfl, rfl, trivial⟩, rfl, rfl, (Ext.trans (Ext.trans E_k E_q) E5a), fun h3 E3 => ⟨hkl, by rw [hbs, List.flatMap_append]; exact ha2⟩, by first | omega | (dsimp only; omega), ?_⟩
          repeat (first | exact off_base _ _ _ | refine off_upd (by decide) ?_ | refine off_updL rfl ?_ | refine off_mix rfl ?_)
  · skip
    have hke : k = (faultsM m).length := by have := geI hk; omega
    subst hke
    refine xp_exit ?_
    refine xp_seq ?_
    refine xp_region rfl ?_
    refine op_pure (pv_move (v := .slice _ _ _) rfl) ?_
    refine op_pure (pv_assign (v := .slice _ _ _) rfl) ?_
    refine op_pure (pv_assign (v := .int .i64 _) rfl) ?_
    refine xp_ret ?_
    refine res_list (vs := [_, _]) Try.results69 ⟨resV_tmp rfl rfl, resV_tmp rfl rfl, trivial⟩ fun V => ?_
    exact ⟨(Ext.trans (Ext.trans (Ext.trans (Ext.trans E13 E4) E5) E_k) (ext_wl V)), _, rfl, AccP.row (i := 1) K2 (by omega) (fun _ _ => rfl) V rfl⟩
end
end Go.Proofs.Ythphpbdmbmiaiaa
/- Plain: the sets of the fewest faults, found one by one. Conditions: as each theorem states. -/
namespace Go.Proofs.Ythphpbdmbmiaiaa
open Go Go.HL Go.Proofs Go.Wx Go.Rd
section
variable [Lvl]
set_option maxRecDepth 100000
theorem explains_iff2 {m : MachP} (M : MOK m) {l : List FaultP} (hf : ∀ f ∈ l, FOK m f) {hs : List HeardP} (X : ∀ x ∈ hs, HeardOK m x) : explainsB m l hs = true ↔ ∀ x ∈ hs, listN (soundsB m l x.hand) 6 = x.sounds := by
  unfold explainsB
  rw [Bool.not_eq_true', List.any_eq_false]
  have s6 : ∀ x ∈ hs, SetOK x.sounds (6 : Nat) := fun x hx => ⟨fun z hz => by have := (X x hx).s.mem z hz; have := M.levers; omega, (X x hx).s.asc⟩
  constructor
  · intro h x hx
    have h1 := h x hx
    unfold against at h1
    have h2 : soundsB m l x.hand = setM x.sounds := by
      have : ¬ ((soundsB m l x.hand : Nat) : Int) ≠ ((setM x.sounds : Nat) : Int) := by simpa using h1
      omega
    exact ((set_eq (s6 x hx) (snd_six M hf x.hand)).1 h2.symm).symm
  · intro h x hx
    have h2 := (set_eq (s6 x hx) (snd_six M hf x.hand)).2 (h x hx).symm
    unfold against
    rw [show soundsB m l x.hand = setM x.sounds from h2.symm]
    simp
/-- The explaining sets of fewer than n faults. -/
def fewG (m : MachP) (hs : List HeardP) (n : Nat) : List (List Int) := choP (fewJ m hs) 0 n
/-- Those, and of the first i sets of n. -/
def fewI (m : MachP) (hs : List HeardP) (n i : Nat) : List (List Int) := fewG m hs n ++ ((chosM (faultsM m).length n 0).take i).filter fun s => explainsB m (pickL m s) hs
theorem fewI_zero (m : MachP) (hs : List HeardP) (n : Nat) : fewI m hs n 0 = fewG m hs n := by simp [fewI]
theorem fewI_succ {m : MachP} {hs : List HeardP} {n i : Nat} (hi : i < (chosM (faultsM m).length n 0).length) : fewI m hs n (i + 1) = fewI m hs n i ++ if explainsB m (pickL m (chosM (faultsM m).length n 0)[i]) hs then [(chosM (faultsM m).length n 0)[i]] else [] := by
  unfold fewI
  rw [take_snoc hi, List.filter_append, List.append_assoc]
  congr 2
  by_cases h : explainsB m (pickL m (chosM (faultsM m).length n 0)[i]) hs = true
  · simp [h]
  · simp [h]
theorem fewI_all (m : MachP) (hs : List HeardP) (n : Nat) : fewI m hs n (chosM (faultsM m).length n 0).length = fewG m hs (n + 1) := by
  unfold fewI fewG
  rw [List.take_length, choP_succ, Nat.zero_add]
  rfl
/-- What fewest is, when some set of at most two faults explains. -/
theorem fewest_some {m : MachP} {hs : List HeardP} (hn : 2 ≤ (faultsM m).length) {ls : List Int} (S : SetOK ls (faultsM m).length) (hl : ls.length ≤ 2) (hE : explainsB m (pickL m ls) hs = true) :
    ∃ d, d ≤ 2 ∧ fewestL m hs = fewJ m hs d ∧ fewJ m hs d ≠ [] ∧ ∀ j, j < d → fewJ m hs j = [] := by
  have hm : ls ∈ fewJ m hs ls.length := List.mem_filter.2 ⟨chos_all ls 0 (fun z hz => by have := S.mem z hz; omega) S.asc, hE⟩
  rw [fewest_eq hs hn]
  by_cases h0 : fewJ m hs 0 = []
  · by_cases h1 : fewJ m hs 1 = []
    · have h2 : fewJ m hs 2 ≠ [] := fun h2 => by
        have : ls.length = 0 ∨ ls.length = 1 ∨ ls.length = 2 := by omega
        rcases this with e | e | e <;> rw [e] at hm <;> simp_all
      refine ⟨2, Nat.le_refl _, by simp [h0, h1], h2, fun j hj => ?_⟩
      have : j = 0 ∨ j = 1 := by omega
      rcases this with rfl | rfl
      · exact h0
      · exact h1
    · refine ⟨1, by omega, by simp [h0, h1], h1, fun j hj => ?_⟩
      obtain rfl : j = 0 := by omega
      exact h0
  · exact ⟨0, by omega, by simp [h0], h0, fun j hj => absurd hj (Nat.not_lt_zero _)⟩
theorem fewG_nil {m : MachP} {hs : List HeardP} {d : Nat} (h : ∀ j, j < d → fewJ m hs j = []) : ∀ n, n ≤ d → fewG m hs n = []
  | 0, _ => rfl
  | n + 1, hn => by
    have := fewG_nil h n (by omega)
    unfold fewG at this ⊢
    rw [choP_succ, this, Nat.zero_add, h n (by omega)]
    rfl
theorem fewG_all {m : MachP} {hs : List HeardP} {d : Nat} (h : ∀ j, j < d → fewJ m hs j = []) : fewG m hs (d + 1) = fewJ m hs d := by
  have := fewG_nil h d (Nat.le_refl _)
  unfold fewG at this ⊢
  rw [choP_succ, this, Nat.zero_add]
  rfl
/-- The first set that explains is the first of the fewest. -/
theorem few_first {m : MachP} {hs : List HeardP} {d n i : Nat} (h : ∀ j, j < d → fewJ m hs j = []) (hn : n ≤ d) (hi : i < (chosM (faultsM m).length n 0).length) (hg : fewI m hs n i = []) (hE : explainsB m (pickL m (chosM (faultsM m).length n 0)[i]) hs = true) : ∃ t, fewJ m hs d = (chosM (faultsM m).length n 0)[i] :: t := by
  have hm : (chosM (faultsM m).length n 0)[i] ∈ fewJ m hs n := List.mem_filter.2 ⟨List.getElem_mem hi, hE⟩
  have hnd : n = d := by
    rcases Nat.lt_or_ge n d with hlt | hge
    · rw [h n hlt] at hm; exact absurd hm List.not_mem_nil
    · omega
  subst hnd
  unfold fewI at hg
  have h2 := (List.append_eq_nil_iff.1 hg).2
  refine ⟨((chosM (faultsM m).length n 0).drop (i + 1)).filter fun s => explainsB m (pickL m s) hs, ?_⟩
  have e : fewJ m hs n = ((chosM (faultsM m).length n 0).take i).filter (fun s => explainsB m (pickL m s) hs) ++ ((chosM (faultsM m).length n 0).drop i).filter (fun s => explainsB m (pickL m s) hs) := by
    rw [← List.filter_append, List.take_append_drop]
    rfl
  rw [e, h2, List.nil_append, List.drop_eq_getElem_cons hi]
  exact List.filter_cons_of_pos (p := fun s => explainsB m (pickL m s) hs) hE
/-- How many sets have each fault, and one set more as far as it has been counted. -/
def cntH (N : Nat) (g : List (List Int)) (t : List Int) : List Int := (List.range N).map fun j : Nat => (((g.countP fun s => decide ((j : Int) ∈ s)) + if (j : Int) ∈ t then 1 else 0 : Nat) : Int)
theorem cntH_len (N : Nat) (g : List (List Int)) (t : List Int) : (cntH N g t).length = N := by simp [cntH]
theorem cntH_nil (N : Nat) : cntH N [] [] = List.replicate N 0 := by
  apply List.ext_getElem (by simp [cntH])
  intro i h1 h2
  simp [cntH]
theorem cntH_done (N : Nat) (g : List (List Int)) (s : List Int) : cntH N g s = cntH N (g ++ [s]) [] := by
  unfold cntH
  congr 1
  funext j
  rw [List.countP_append, List.countP_cons]
  simp
theorem cntH_at {N : Nat} {g : List (List Int)} {t : List Int} {j : Nat} (hj : j < N) : (cntH N g t).getD j 0 = (((g.countP fun s => decide ((j : Int) ∈ s)) + if (j : Int) ∈ t then 1 else 0 : Nat) : Int) := by
  rw [List.getD_eq_getElem?_getD, List.getElem?_eq_getElem (by rw [cntH_len]; exact hj)]
  simp [cntH]
theorem cntH_step {N : Nat} {g : List (List Int)} {s : List Int} {k : Nat} (S : SetOK s N) (hk : k < s.length) : (cntH N g (s.take k)).set s[k].toNat ((cntH N g (s.take k)).getD s[k].toNat 0 + 1) = cntH N g (s.take (k + 1)) := by
  obtain ⟨a0, a1⟩ := S.mem _ (List.getElem_mem hk)
  have hni : s[k] ∉ s.take k := fun hm => by
    rw [List.mem_take_iff_getElem] at hm
    obtain ⟨q, hq, e⟩ := hm
    have := List.pairwise_iff_getElem.1 S.asc q k (by omega) hk (by omega)
    omega
  apply List.ext_getElem (by rw [List.length_set, cntH_len, cntH_len])
  intro i h1 h2
  rw [cntH_len] at h2
  rw [List.getElem_set]
  by_cases e : s[k].toNat = i
  · rw [if_pos e, e, cntH_at h2]
    have ei : (i : Int) = s[k] := by omega
    simp only [cntH, List.getElem_map, List.getElem_range]
    rw [take_snoc hk, ei, if_neg hni, if_pos (List.mem_append_right _ (List.mem_singleton.2 rfl))]
    omega
  · rw [if_neg e]
    simp only [cntH, List.getElem_map, List.getElem_range]
    have : ((i : Int) ∈ s.take (k + 1)) ↔ ((i : Int) ∈ s.take k) := by
      rw [take_snoc hk, List.mem_append, List.mem_singleton]
      exact ⟨fun h => h.resolve_right fun h => by omega, .inl⟩
    simp only [this]
theorem cntH_in {N : Nat} {g : List (List Int)} {j : Nat} (hj : j < N) : (cntH N g []).getD j 0 = (inN g (j : Int) g.length : Nat) := by
  rw [cntH_at hj]
  unfold inN
  rw [List.take_length]
  simp
end
end Go.Proofs.Ythphpbdmbmiaiaa
/- Walks: no fewer faults explain. Conditions: as each theorem states. -/
namespace Go.Proofs.Ythphpbdmbmiaiaa
open Go Go.HL Go.Proofs Go.Wx Go.Rd
section
variable [Lvl]
set_option maxRecDepth 100000
set_option maxHeartbeats 16000000 in
theorem fewest_runs (w : World) (l : List Int) (hl : l.length < 2 ^ 63) (A : Option Addr) (c : Nat) (R : Row (absH w.heap) 1 intC A l) : RunsTrue Try.prog 14 #[.slice A l.length c] w := by
  letI : Lvl := ⟨true, none, none⟩
  refine runs_body Try.func14 rfl Try.ntmps14 rfl Try.results14 rfl (by kernel_rfl) fun h hh => ?_
  rw [← hh] at R
  refine xp_seq ?_
  refine xp_region rfl ?_
  refine op_pure (pv_assign (v := .bool _) rfl) ?_
  refine xp_seq ?_
  refine xp_region rfl ?_
  refine op_pure (pv_move (v := .slice _ _ _) rfl) ?_
  refine op_fnMM [] [] [] rfl rfl rfl ((NewPot_ok l hl A c h R)) ?_
  rintro _ h1 _ E1 ⟨b, x, rfl, rfl⟩
  refine wp_norm [_] rfl ?_
  refine op_pure (pv_assign (v := .pointer _) rfl) ?_
  refine xp_seq ?_
  refine xp_region rfl ?_
  refine op_pure (pv_move (v := .pointer _) rfl) ?_
  refine op_fnMM [] [_] [] (vs := _) rfl rfl rfl ((MachineOf_okC b x 3 4 2 (by omega) (by omega) (by omega) h1)) ?_
  rintro _ h2 _ E2 ⟨x2, m, rfl, VM, Md, CM⟩
  refine wp_norm [_] rfl ?_
  obtain ⟨AB, AQ, AL, AW, cB, cQ, cL, cW, rfl, RM⟩ := VM.open
  obtain ⟨hcQ, hcL⟩ := CM AB AQ AL AW cB cQ cL cW m rfl
  have M := Md.ok
  have mbl := Md.bl
  have mpl := Md.pl
  have mll := Md.ll
  have mls := Md.ls
  have mlv := M.levers
  have mrg := M.regs
  have mwl := M.wl
  have fln := faults_len m
  have hN : (faultsM m).length ≤ 12 := by omega
  have hN2 : 2 ≤ (faultsM m).length := by omega
  refine op_alloc (cs := [_, _, _, _, _, _, _, _, _]) rfl rfl fun b4 hb4 => ?_
  refine wp_norm [_, _] rfl ?_
  refine op_storeP 1 (v := .agg #[.int .i64 _, .int .i64 _, .int .i64 _, .int .i64 _, .int .i64 _, .slice _ _ _, .slice _ _ _, .slice _ _ _, .slice _ _ _]) (vs := [_, _, _, _, _, _, _, _, _]) (c' := [_, _, _, _, _, _, _, _, _]) rfl rfl rfl rfl rfl rfl rfl rfl rfl ?_
  refine wp_norm [_, _] rfl ?_
  refine xp_seq ?_
  refine xp_dw [true, false] rfl rfl rfl ?_
  refine dw_pure (i := 0) rfl (by decide +kernel) (pv_move (v := .pointer _) rfl) ?_
  refine dw_load (i := 1) rfl (by decide +kernel) ?_
  refine op_loadPA 1 (vs := [.int .i64 _, .int .i64 _, .int .i64 _, .int .i64 _, .int .i64 _, .slice _ _ _, .slice _ _ _, .slice _ _ _, .slice _ _ _]) rfl rfl rfl rfl rfl ?_
  refine dw_pure (i := 2) rfl (by decide +kernel) (pv_move (v := .pointer _) rfl) ?_
  refine dw_load (i := 3) rfl (by decide +kernel) ?_
  refine op_loadPA 1 (vs := [.int .i64 _, .int .i64 _, .int .i64 _, .int .i64 _, .int .i64 _, .slice _ _ _, .slice _ _ _, .slice _ _ _, .slice _ _ _]) rfl rfl rfl rfl rfl ?_
  refine dw_eff (i := 4) rfl (by decide +kernel) ?_
  refine op_fnMM [] [_] [_] (vs := [.pointer _, .agg _]) rfl rfl rfl ((faultsOf_ok b x2 m M AB AQ AL AW cB cQ cL cW h2 (RM.ext (Ext.refl _)))) ?_
  rintro _ h4 _ E4 ⟨x4, ls, rfl, ⟨NA, cN, rfl, RS⟩, HS, hls⟩
  refine ⟨ext_wlm E4 _, ?_⟩
  refine dw_norm [_, _] rfl ?_
  refine dw_last (i := 5) rfl (by decide +kernel) (by decide +kernel) ?_
  refine op_fnMM [] [_] [_] (vs := [.pointer _, .agg _, .slice _ _ _, .int .i64 _]) rfl rfl rfl ((heardOf_ok b x4 m M ls HS 3 (by omega) AB AQ AL AW NA cB cQ cL cW cN hcQ hcL h4 (RM.ext E4) (RS.ext (Ext.refl _)))) ?_
  rintro _ h5 _ E5 ⟨x5, hs, rfl, SH, hsl, hsx⟩
  refine dw_norm [_, _] rfl ?_
  obtain ⟨cs, A5, c5, rfl, R5, EL5⟩ := SlX.els SH
  have hl5 : hs.length ≤ 5 := by omega
  have hfo := pickL_fok M HS.mem
  have X : ∀ x ∈ hs, HeardOK m x := fun x hx => ⟨(hsx x hx).1, by rw [(hsx x hx).2]; exact listN_set _ (snd_lv M hfo x.hand)⟩
  have hEl : explainsB m (pickL m ls) hs = true := (explains_iff2 M hfo X).2 fun x hx => (hsx x hx).2.symm
  obtain ⟨d, hd2, hFd, hFn, hFz⟩ := fewest_some hN2 HS hls hEl
  obtain ⟨F, hF⟩ : ∃ F, F = fewJ m hs d := ⟨_, rfl⟩
  have hFl : 0 < F.length := by rw [hF]; exact List.length_pos_iff.2 hFn
  have hFs : ∀ s ∈ F, s.length = d := by rw [hF]; exact few_len
  have hFc : F.length ≤ 4096 := by
    have h1 := chos_len (n := (faultsM m).length) d 0
    have h2 : 2 ^ ((faultsM m).length - 0) ≤ 2 ^ 12 := Nat.pow_le_pow_right (by omega) (by omega)
    have h3 := List.length_filter_le (fun s => explainsB m (pickL m s) hs) (chosM (faultsM m).length d 0)
    rw [hF]
    unfold fewJ
    omega
  rw [← hF] at hFd
  have L1 := Fewest_ok rfl m M hN hs hl5 X (by rw [hFd]; exact hFl) AB AQ AL AW A5 cB cQ cL cW c5 cs
  have L2 := Blame_ok rfl m M hN hs hl5 X (by rw [hFd]; exact hFl) (by rw [hFd]; intro s hs'; have := hFs s hs'; omega) (by rw [hFd]; omega) AB AQ AL AW A5 cB cQ cL cW c5 cs
  have hF0 : ∀ hne, (fewestL m hs)[0]'hne = F[0]'hFl := fun hne => by congr 1
  rw [hF0] at L1
  rw [hFd] at L2
  obtain ⟨bl, hbl⟩ : ∃ bl, bl = blameK F (faultsM m).length := ⟨_, rfl⟩
  have hbll : bl.length = (faultsM m).length := by rw [hbl]; simp [blameK]
  rw [← hbl] at L2
  obtain ⟨f0, hf0⟩ : ∃ f0, f0 = F[0] := ⟨_, rfl⟩
  have hf0l : f0.length = d := by rw [hf0]; exact hFs _ (List.getElem_mem hFl)
  rw [← hf0] at L1
  refine dw_pure (i := 6) rfl (by decide +kernel) (pv_assign (v := .slice _ _ _) rfl) ?_
  refine dw_end rfl ?_
  refine xp_seq ?_
  refine xp_region rfl ?_
  refine op_loadPA 1 (vs := [.int .i64 _, .int .i64 _, .int .i64 _, .int .i64 _, .int .i64 _, .slice _ _ _, .slice _ _ _, .slice _ _ _, .slice _ _ _]) rfl rfl rfl rfl rfl ?_
  refine op_pure (pv_move (v := .slice _ _ _) rfl) ?_
  refine op_fn (caps := []) (vs := [.agg _, .slice _ _ _]) rfl rfl rfl (L1 h5 (RM.ext (Ext.trans E4 E5)) (R5.ext (Ext.refl _)) (EL5.ext TU.mono (Ext.refl _))) ?_
  rintro _ h6 E6 ⟨_, rfl, A6, c6, rfl, S6⟩
  refine op_pure (pv_move (v := .tuple #[.slice _ _ _, .int .i64 _]) rfl) ?_
  refine op_pure (pv_of (v := .slice _ _ _) rfl) ?_
  refine op_pure (pv_of (v := .int .i64 _) rfl) ?_
  refine op_pure (pv_assign (v := .slice _ _ _) rfl) ?_
  refine op_pure (pv_assign (v := .int .i64 _) rfl) ?_
  refine xp_seq ?_
  refine xp_region rfl ?_
  refine op_loadPA 1 (vs := [.int .i64 _, .int .i64 _, .int .i64 _, .int .i64 _, .int .i64 _, .slice _ _ _, .slice _ _ _, .slice _ _ _, .slice _ _ _]) rfl rfl rfl rfl rfl ?_
  refine op_pure (pv_move (v := .slice _ _ _) rfl) ?_
  refine op_fn (caps := []) (vs := [.agg _, .slice _ _ _]) rfl rfl rfl (L2 h6 (RM.ext (Ext.trans (Ext.trans E4 E5) E6)) (R5.ext E6) (EL5.ext TU.mono E6)) ?_
  rintro _ h7 E7 ⟨_, rfl, A7, c7, rfl, S7⟩
  obtain ⟨N, hNN⟩ : ∃ N, N = (faultsM m).length := ⟨_, rfl⟩
  have hmN : 2 * m.levers + (m.pins.length : Int) + (m.links.length : Int) = (N : Int) := by omega
  have d1 : ((bl.length : Int) != 2 * m.levers + (m.pins.length : Int) + (m.links.length : Int)) = false := by rw [hmN, hbll, hNN]; simp
  refine op_pure (pv_move (v := .tuple #[.slice _ _ _, .int .i64 _]) rfl) ?_
  refine op_pure (pv_of (v := .slice _ _ _) rfl) ?_
  refine op_pure (pv_of (v := .int .i64 _) rfl) ?_
  refine op_pure (pv_assign (v := .slice _ _ _) rfl) ?_
  refine op_pure (pv_assign (v := .int .i64 _) rfl) ?_
  refine xp_seq ?_
  refine xp_region rfl ?_
  refine op_pure (pv_fieldAddr rfl rfl rfl rfl 1 rfl) ?_
  refine op_loadP 1 (v := .int .i64 _) rfl rfl rfl rfl ?_
  refine op_pure (pv_arith rfl (by omega)) ?_
  refine op_pure (pv_fieldAddr rfl rfl rfl rfl 6 rfl) ?_
  refine op_loadP 1 (v := .slice _ _ _) rfl rfl rfl rfl ?_
  refine op_pure (pv_len rfl rfl) ?_
  refine op_pure (pv_arith rfl (by omega)) ?_
  refine op_pure (pv_fieldAddr rfl rfl rfl rfl 7 rfl) ?_
  refine op_loadP 1 (v := .slice _ _ _) rfl rfl rfl rfl ?_
  refine op_pure (pv_len rfl rfl) ?_
  refine op_pure (pv_arith rfl (by omega)) ?_
  refine op_pure (pv_assign (v := .int .i64 _) rfl) ?_
  refine xp_seq ?_
  refine xp_seq ?_
  refine xp_region rfl ?_
  refine op_pure (pv_move (v := .int .i64 _) rfl) ?_
  refine op_pure (pv_of (v := .bool _) rfl) ?_
  refine op_pure (pv_move (v := .bool _) rfl) ?_
  refine guard_yes rfl rfl ?_
  refine op_pure (pv_move (v := .int .i64 _) rfl) ?_
  refine guard_yes rfl rfl ?_
  refine op_pure (pv_of (v := .bool _) rfl) ?_
  refine op_pure (pv_pickF rfl rfl (v := .bool _) rfl) ?_
  refine op_pure (pv_move (v := .bool _) rfl) ?_
  refine guard_yes rfl rfl ?_
  refine op_pure (pv_move (v := .slice _ _ _) rfl) ?_
  refine guard_yes rfl rfl ?_
  refine op_pure (pv_len rfl rfl) ?_
  refine guard_yes rfl rfl ?_
  refine op_pure (pv_move (v := .int .i64 _) rfl) ?_
  refine guard_yes rfl rfl ?_
  refine op_pure (pv_of (v := .bool _) rfl) ?_
  refine op_pure (pv_pickF rfl rfl (v := .bool _) rfl) ?_
  refine op_pure (pv_move (v := .bool _) rfl) ?_
  refine guard_yes rfl d1 ?_
  refine op_pure (pv_move (v := .slice _ _ _) rfl) ?_
  refine guard_yes rfl d1 ?_
  refine op_pure (pv_len rfl rfl) ?_
  refine guard_yes rfl d1 ?_
  refine op_pure (pv_of (v := .bool _) rfl) ?_
  refine op_pure (pv_pickF rfl d1 (v := .bool _) rfl) ?_
  refine xp_condF rfl (decide_eq_false (by omega)) ?_
  refine xp_skip ?_
  refine xp_seq ?_
  refine xp_region rfl ?_
  refine op_pure (pv_assign (v := .bool _) rfl) ?_
  refine op_pure (pv_assign (v := .int .i64 _) rfl) ?_
  refine xp_seq ?_
  refine xp_region rfl ?_
  refine op_pure (pv_move (v := .int .i64 _) rfl) ?_
  refine op_makeSlice (len := N) (cap := N) (zc := [.int .i64 0]) rfl rfl hmN hmN rfl rfl rfl rfl rfl (by omega) (by omega) rfl fun bI hbI => ?_
  refine wp_norm [_, _, _] rfl ?_
  refine wp_norm [_, _, some (bI, .cells (tV (List.replicate N 0)).toArray 3 (0, 0))] (by rw [← mk_zero]; rfl) ?_
  rw [← cntH_nil N]
  refine op_pure (pv_assign (v := .slice _ _ _) rfl) ?_
  refine xp_seq ?_
  refine xp_seq ?_
  refine xp_region rfl ?_
  refine op_pure (pv_assign (v := .int .i64 _) rfl) ?_
  refine xp_block ?_
  refine xp_loopL [2, 11, 12, 14, 15, 16, 17, 18, 19, 20, 21, 76, 77, 78, 79, 80, 81, 82, 83, 84, 85, 86, 87, 88, 89, 90, 91, 92, 93, 94, 95, 96, 97, 98, 99, 100, 101, 102, 103, 104, 105, 106, 107, 108, 109, 110, 111, 112, 113, 114, 115, 116, 117, 118, 119, 120, 121, 122, 123, 124, 125, 126, 127, 128, 129, 130, 131, 132, 133, 134, 135, 136, 137, 138, 139, 140, 141, 142, 143, 144, 145, 146, 147, 148, 149, 150, 151, 152, 153, 154, 155, 156, 157] 3 (α := Nat) (fun n => [(14, .int .i64 n), (11, .bool (decide (fewG m hs n = []))), (12, .int .i64 ((fewG m hs n).length : Nat))]) (fun n L => L.set 2 (some (bI, .cells (tV (cntH N (fewG m hs n) [])).toArray 3 (0, 0)))) (fun n h_n => n ≤ d + 1) (fun n => d + 1 - n) (0) ⟨rfl, rfl, rfl, trivial⟩ (rfl) (Nat.zero_le _) ?_
  rintro n T1 h_n E_n J_n
  refine goes_norm [_, _, _] rfl ?_
  refine xp_seq ?_
  refine xp_seq ?_
  refine xp_region rfl ?_
  refine op_pure (pv_move (v := .int .i64 _) rfl) ?_
  refine op_pure (pv_move (v := .slice _ _ _) rfl) ?_
  refine op_pure (pv_len rfl rfl) ?_
  refine op_pure (pv_of (v := .bool _) rfl) ?_
  refine xp_cond rfl (fun hn => ?_) (fun hn => ?_)
  · skip
    have hnd : n ≤ d := by have := of_decide_eq_true hn; omega
    obtain ⟨rs, hrs⟩ : ∃ rs, rs = chosM N n 0 := ⟨_, rfl⟩
    have hrl : rs.length ≤ 4096 := by
      have h1 := chos_len (n := N) n 0
      have h2 : 2 ^ (N - 0) ≤ 2 ^ 12 := Nat.pow_le_pow_right (by omega) (by omega)
      rw [hrs]; omega
    have C1 := Choices_ok N (by omega) n 0 h_n 0 n rfl rfl (by omega) (by omega)
    rw [← hrs, ← hmN] at C1
    refine xp_skip ?_
    refine xp_seq ?_
    refine xp_block ?_
    refine xp_seq ?_
    refine xp_region rfl ?_
    refine op_pure (pv_move (v := .int .i64 _) rfl) ?_
    refine op_pure (pv_move (v := .int .i64 _) rfl) ?_
    refine op_fn (caps := []) (vs := [.int .i64 _, .int .i64 _, .int .i64 _]) rfl rfl rfl (C1) ?_
    rintro _ h10 E10 S10
    obtain ⟨gs, A10, c10, rfl, R10, EL10⟩ := SlX.els S10
    have hI0 := fewI_zero m hs n
    refine op_pure (pv_assign (v := .slice _ _ _) rfl) ?_
    refine xp_seq ?_
    refine xp_region rfl ?_
    refine op_pure (pv_assign (v := .int .i64 _) rfl) ?_
    refine xp_block ?_
    refine xp_loopL [2, 11, 12, 16, 17, 18, 19, 20, 21, 85, 86, 87, 88, 89, 90, 91, 92, 93, 94, 95, 96, 97, 98, 99, 100, 101, 102, 103, 104, 105, 106, 107, 108, 109, 110, 111, 112, 113, 114, 115, 116, 117, 118, 119, 120, 121, 122, 123, 124, 125, 126, 127, 128, 129, 130, 131, 132, 133, 134, 135, 136, 137, 138, 139, 140, 141, 142, 143, 144, 145, 146, 147, 148, 149, 150, 151, 152, 153, 154, 155, 156, 157] 3 (α := Nat) (fun i => [(16, .int .i64 i), (11, .bool (decide (fewI m hs n i = []))), (12, .int .i64 ((fewI m hs n i).length : Nat))]) (fun i L => L.set 2 (some (bI, .cells (tV (cntH N (fewI m hs n i) [])).toArray 3 (0, 0)))) (fun i h_i => i ≤ rs.length) (fun i => rs.length - i) (0) ⟨rfl, boolE (by rw [hI0]), intE (by rw [hI0]), trivial⟩ (by rw [hI0]; rfl) (Nat.zero_le _) ?_
    rintro i T2 h_i E_i J_i
    refine goes_norm [_, _, _] rfl ?_
    refine xp_seq ?_
    refine xp_seq ?_
    refine xp_region rfl ?_
    refine op_pure (pv_move (v := .int .i64 _) rfl) ?_
    refine op_pure (pv_move (v := .slice _ _ _) rfl) ?_
    refine op_pure (pv_len rfl rfl) ?_
    refine op_pure (pv_of (v := .bool _) rfl) ?_
    refine xp_cond rfl (fun hi => ?_) (fun hi => ?_)
    · skip
      have hil : i < rs.length := ltI hi
      have hil' : i < (chosM (faultsM m).length n 0).length := by rw [← hNN, ← hrs]; exact hil
      obtain ⟨s, hs0⟩ : ∃ s, s = rs[i] := ⟨_, rfl⟩
      have hse : s = (chosM (faultsM m).length n 0)[i]'hil' := by rw [hs0]; congr 1; rw [hrs, hNN]
      obtain ⟨SS, hsn⟩ := chos_set (n := N) (m := n) (a := 0) (x := s) (by rw [hs0, ← hrs]; exact List.getElem_mem hil)
      have hfs := pickL_fok M (l := s) (by rw [← hNN]; exact SS.mem)
      have hst := fewI_succ (m := m) (hs := hs) (n := n) hil'
      rw [← hse] at hst
      obtain ⟨hic, y0, e0, XA, cX, rfl, RX⟩ := (EL10.ext TL.mono E_i).at hil
      obtain ⟨g, off, hA, hc⟩ := (R10.ext E_i).at (by omega) hic
      have hc : Cells h_i g (off + i * 1) [.slice XA rs[i].length cX] := by rw [← e0]; exact hc
      rw [← hs0] at RX hc
      obtain ⟨bv, hbv⟩ : ∃ bv : Nat → Bool, ∀ j, bv j = true ↔ ∀ x ∈ hs.take j, listN (soundsB m (pickL m s) x.hand) 6 = x.sounds := ⟨fun j => @decide _ (Classical.propDecidable (∀ x ∈ hs.take j, listN (soundsB m (pickL m s) x.hand) 6 = x.sounds)), fun j => @decide_eq_true_iff _ (Classical.propDecidable _)⟩
      have b0 : bv 0 = true := (hbv 0).2 (fun x hx => by simp at hx)
      refine xp_skip ?_
      refine xp_seq ?_
      refine xp_block ?_
      refine xp_seq ?_
      refine xp_region rfl ?_
      refine op_pure (pv_assign (v := .bool _) rfl) ?_
      refine xp_seq ?_
      refine xp_seq ?_
      refine xp_region rfl ?_
      refine op_pure (pv_assign (v := .int .i64 _) rfl) ?_
      refine xp_block ?_
      refine xp_loopB [2, 17, 18, 19, 20, 91, 92, 93, 94, 95, 96, 97, 98, 99, 100, 101, 102, 103, 104, 105, 106, 107, 108, 109, 110, 111, 112, 113, 114, 115, 116, 117, 118, 119, 120, 121, 122] 3 (α := Nat) (fun k => [(18, .int .i64 k), (17, .bool (bv k))]) (fun k => _) (fun k h_k => k ≤ hs.length) (fun k => hs.length - k) (0) ⟨rfl, boolE b0.symm, trivial⟩ (rfl) (Nat.zero_le _) ?_
      rintro k T3 h_k E_k J_k
      refine goes_norm [_, _, _] rfl ?_
      refine xp_seq ?_
      refine xp_seq ?_
      refine xp_region rfl ?_
      refine op_pure (pv_move (v := .int .i64 _) rfl) ?_
      refine op_pure (pv_move (v := .slice _ _ _) rfl) ?_
      refine op_pure (pv_len rfl rfl) ?_
      refine op_pure (pv_of (v := .bool _) rfl) ?_
      refine xp_cond rfl (fun hk => ?_) (fun hk => ?_)
      · skip
        have hkl : k < hs.length := ltI hk
        have HX := (hsx _ (List.getElem_mem hkl)).1
        obtain ⟨hkc, B0, O0, U0, e1, ⟨HA, cH, rfl, r1⟩, ⟨OA, cO, rfl, r2⟩, ⟨UA, cU, rfl, r3⟩⟩ := (EL5.ext TU.mono (Ext.trans (Ext.trans (Ext.trans (Ext.trans (Ext.trans E6 E7) E_n) E10) E_i) E_k)).at hkl
        obtain ⟨g2, off2, hA2, hc2⟩ := (R5.ext (Ext.trans (Ext.trans (Ext.trans (Ext.trans (Ext.trans E6 E7) E_n) E10) E_i) E_k)).at (by omega) hkc
        have hc2 : Cells h_k g2 (off2 + k * 3) [.slice HA hs[k].hand.buttons.length cH, .slice OA hs[k].hand.on.length cO, .slice UA hs[k].sounds.length cU] := by rw [← e1]; exact hc2
        obtain ⟨q, hq⟩ : ∃ q, q = listN (soundsB m (pickL m s) hs[k].hand) 6 := ⟨_, rfl⟩
        have hql : q.length < 2 ^ 40 := by rw [hq]; have := listN_len (soundsB m (pickL m s) hs[k].hand) 6; omega
        have SS' : SetOK s (faultsM m).length := by rw [← hNN]; exact SS
        have L3 := Broken_ok rfl m s hs[k].hand AB AQ AL AW XA HA OA cB cQ cL cW cX cH cO
        rw [brokenE_ok M SS' HX, show brokenL m s hs[k].hand = q by rw [brokenL, if_pos (brokenE_ok M SS' HX), hq]] at L3
        have hbs : bv (k + 1) = (bv k && decide (q = hs[k].sounds)) := by
          rw [Bool.eq_iff_iff, hbv, Bool.and_eq_true, hbv, decide_eq_true_iff, take_snoc hkl, hq]
          constructor
          · exact fun h => ⟨fun x hx => h x (List.mem_append_left _ hx), h _ (List.mem_append_right _ (List.mem_singleton.2 rfl))⟩
          · exact fun h => mem_one h.1 h.2
        refine xp_skip ?_
        refine xp_seq ?_
        refine xp_block ?_
        refine xp_seq ?_
        refine xp_dw [] rfl rfl rfl ?_
        refine dw_load (i := 0) rfl (by decide +kernel) ?_
        refine op_loadPA 1 (vs := [.int .i64 _, .int .i64 _, .int .i64 _, .int .i64 _, .int .i64 _, .slice _ _ _, .slice _ _ _, .slice _ _ _, .slice _ _ _]) rfl rfl rfl rfl rfl ?_
        refine dw_pure (i := 1) rfl (by decide +kernel) (pv_move (v := .slice _ _ _) rfl) ?_
        refine dw_pure (i := 2) rfl (by decide +kernel) (pv_move (v := .int .i64 _) rfl) ?_
        refine dw_pure (i := 3) rfl (by decide +kernel) (pv_indexE (m := 1) rfl hA rfl rfl rfl (by omega) (by omega)) ?_
        refine dw_load (i := 4) rfl (by decide +kernel) ?_
        refine op_load (v := .slice _ _ _) rfl rfl (((hc.ext E_k)) 0 _ rfl) ?_
        refine dw_pure (i := 5) rfl (by decide +kernel) (pv_move (v := .slice _ _ _) rfl) ?_
        refine dw_pure (i := 6) rfl (by decide +kernel) (pv_move (v := .int .i64 _) rfl) ?_
        refine dw_pure (i := 7) rfl (by decide +kernel) (pv_indexE (m := 3) rfl hA2 rfl rfl rfl (by omega) (by omega)) ?_
        refine dw_pure (i := 8) rfl (by decide +kernel) (pv_fieldAddr rfl rfl rfl rfl _ rfl) ?_
        refine dw_load (i := 9) rfl (by decide +kernel) ?_
        refine op_loadA rfl rfl rfl rfl (hc2.part 0 2) ?_
        refine dw_last (i := 10) rfl (by decide +kernel) (by decide +kernel) ?_
        refine op_fn (caps := []) (vs := [.agg _, .slice _ _ _, .agg _]) rfl rfl rfl (L3 h_k (RM.ext (Ext.trans (Ext.trans (Ext.trans (Ext.trans (Ext.trans (Ext.trans (Ext.trans E4 E5) E6) E7) E_n) E10) E_i) E_k)) (RX.ext E_k) ⟨r1, r2⟩ M.wlen (by omega) (HX.blen M) (HX.olen M)) ?_
        rintro _ h11 E11 ⟨_, rfl, A11, c11, rfl, S11⟩
        refine dw_pure (i := 11) rfl (by decide +kernel) (pv_move (v := .tuple #[.slice _ _ _, .int .i64 _]) rfl) ?_
        refine dw_pure (i := 12) rfl (by decide +kernel) (pv_of (v := .slice _ _ _) rfl) ?_
        refine dw_pure (i := 13) rfl (by decide +kernel) (pv_of (v := .int .i64 _) rfl) ?_
        refine dw_pure (i := 14) rfl (by decide +kernel) (pv_assign (v := .slice _ _ _) rfl) ?_
        refine dw_pure (i := 15) rfl (by decide +kernel) (pv_assign (v := .int .i64 _) rfl) ?_
        refine dw_end rfl ?_
        refine xp_seq ?_
        refine xp_seq ?_
        refine xp_region rfl ?_
        refine op_pure (pv_move (v := .int .i64 _) rfl) ?_
        refine op_pure (pv_of (v := .bool _) rfl) ?_
        refine xp_condF rfl (rfl) ?_
        refine xp_skip ?_
        refine xp_region rfl ?_
        refine op_pure (pv_move (v := .bool _) rfl) ?_
        refine op_pure (pv_move (v := .bool _) rfl) ?_
        rcases Bool.eq_false_or_eq_true (bv k) with hb | hb
        · skip
          refine guard_yes rfl hb ?_
          refine op_pure (pv_move (v := .slice _ _ _) rfl) ?_
          refine guard_yes rfl hb ?_
          refine op_pure (pv_move (v := .slice _ _ _) rfl) ?_
          refine guard_yes rfl hb ?_
          refine op_pure (pv_move (v := .int .i64 _) rfl) ?_
          refine guard_yes rfl hb ?_
          refine op_pure (pv_indexE (m := 3) rfl hA2 rfl rfl rfl (by omega) (by omega)) ?_
          refine guard_yes rfl hb ?_
          refine op_pure (pv_fieldAddr rfl rfl rfl rfl _ rfl) ?_
          refine guard_yes rfl hb ?_
          refine op_load (v := .slice _ _ _) rfl rfl ((hc2.ext E11) 2 _ rfl) ?_
          refine guard_yes rfl hb ?_
          refine op_fn (caps := []) (vs := [.slice _ _ _, .slice _ _ _]) rfl rfl rfl (sameInts_ok q hs[k].sounds _ _ _ _ h11 S11 (r3.ext E11) hql) ?_
          rintro _ h12 E12 rfl
          refine op_pure (pv_pickT rfl hb (v := .bool _) rfl) ?_
          refine op_pure (pv_assign (v := .bool _) rfl) ?_
          refine xp_region rfl ?_
          refine op_pure (pv_move (v := .int .i64 _) rfl) ?_
          refine op_pure (pv_arith rfl (by omega)) ?_
          refine op_pure (pv_assign (v := .int .i64 _) rfl) ?_
          refine ⟨k + 1, ⟨rfl, boolE (by rw [hbs, hb]; rfl), trivial⟩, rfl, rfl, (Ext.trans (Ext.trans E_k E11) E12), fun h3 E3 => hkl, by first | omega | (dsimp only; omega), ?_⟩
          repeat (first | exact off_base _ _ _ | refine off_upd (by decide) ?_ | refine off_updL rfl ?_ | refine off_mix rfl ?_)
        · skip
          refine guard_no rfl hb ?_
          refine guard_no rfl hb ?_
          refine guard_no rfl hb ?_
          refine guard_no rfl hb ?_
          refine guard_no rfl hb ?_
          refine guard_no rfl hb ?_
          refine guard_no rfl hb ?_
          refine op_pure (pv_pickF rfl hb (v := .bool _) rfl) ?_
          refine op_pure (pv_assign (v := .bool _) rfl) ?_
          refine xp_region rfl ?_
          refine op_pure (pv_move (v := .int .i64 _) rfl) ?_
          refine op_pure (pv_arith rfl (by omega)) ?_
          refine op_pure (pv_assign (v := .int .i64 _) rfl) ?_
          refine ⟨k + 1, ⟨rfl, boolE (by rw [hbs, hb]; rfl), trivial⟩, rfl, rfl, (Ext.trans E_k E11), fun h3 E3 => hkl, by first | omega | (dsimp only; omega), ?_⟩
          repeat (first | exact off_base _ _ _ | refine off_upd (by decide) ?_ | refine off_updL rfl ?_ | refine off_mix rfl ?_)
      · skip
        have hke : k = hs.length := by have := geI hk; omega
        subst hke
        have hbE : bv hs.length = explainsB m (pickL m s) hs := by rw [Bool.eq_iff_iff, hbv, List.take_length]; exact (explains_iff2 M hfs X).symm
        rw [hbE]
        refine xp_exit ?_
        refine xp_seq ?_
        refine xp_seq ?_
        refine xp_region rfl ?_
        refine op_pure (pv_move (v := .bool _) rfl) ?_
        refine op_pure (pv_of (v := .bool _) rfl) ?_
        refine xp_cond rfl (fun hx => ?_) (fun hx => ?_)
        · skip
          have hx' : explainsB m (pickL m s) hs = false := by simpa using hx
          rw [hx', if_neg (by decide), List.append_nil] at hst
          refine xp_exit ?_
          refine xp_region rfl ?_
          refine op_pure (pv_move (v := .int .i64 _) rfl) ?_
          refine op_pure (pv_arith rfl (by omega)) ?_
          refine op_pure (pv_assign (v := .int .i64 _) rfl) ?_
          refine ⟨i + 1, ⟨rfl, boolE (by rw [hst]), intE (by rw [hst]), trivial⟩, rfl, by rw [hst]; rfl, (Ext.trans E_i E_k), fun h3 E3 => hil, by first | omega | (dsimp only; omega), ?_⟩
          repeat (first | exact off_base _ _ _ | refine off_upd (by decide) ?_ | refine off_updL rfl ?_ | refine off_mix rfl ?_)
        · skip
          have hx' : explainsB m (pickL m s) hs = true := by simpa using hx
          rw [hx', if_pos rfl] at hst
          have hgl : (fewI m hs n (i + 1)).length = (fewI m hs n i).length + 1 := by rw [hst, List.length_append]; rfl
          have hgk : (fewI m hs n i).length ≤ 2 ^ 20 := by
            have h1 := List.length_filter_le (fun s => explainsB m (pickL m s) hs) ((chosM (faultsM m).length n 0).take i)
            rw [List.length_take] at h1
            have h2 : (fewG m hs n).length = 0 := by rw [fewG_nil hFz n hnd]; rfl
            unfold fewI
            rw [List.length_append]
            omega
          refine xp_skip ?_
          refine xp_cutB [2, 125, 126, 127, 128, 129, 130, 131, 132, 133, 134] 3 (α := Unit) (fun u2 => []) (fun u2 L => L) (fun u2 h_u2 => True) ?_ ?_
          · skip
            by_cases hg : fewI m hs n i = []
            · have hgd : decide (fewI m hs n i = []) = true := decide_eq_true hg
              obtain ⟨t, ht⟩ := few_first hFz hnd hil' hg (by rw [← hse]; exact hx')
              have hsf : s = f0 := by
                have : F = s :: t := by rw [hF, ht, hse]
                rw [hf0]
                subst this
                rfl
              refine xp_seq ?_
              refine xp_region rfl ?_
              refine op_pure (pv_move (v := .bool _) rfl) ?_
              refine op_pure (pv_move (v := .bool _) rfl) ?_
              refine guard_yes rfl hgd ?_
              refine op_pure (pv_move (v := .slice _ _ _) rfl) ?_
              refine guard_yes rfl hgd ?_
              refine op_pure (pv_move (v := .int .i64 _) rfl) ?_
              refine guard_yes rfl hgd ?_
              refine op_pure (pv_indexE (m := 1) rfl hA rfl rfl rfl (by omega) (by omega)) ?_
              refine guard_yes rfl hgd ?_
              refine op_load (v := .slice _ _ _) rfl rfl (((hc.ext E_k)) 0 _ rfl) ?_
              refine guard_yes rfl hgd ?_
              refine op_pure (pv_move (v := .slice _ _ _) rfl) ?_
              refine guard_yes rfl hgd ?_
              refine op_fn (caps := []) (vs := [.slice _ _ _, .slice _ _ _]) rfl rfl rfl (sameInts_ok s f0 _ _ _ _ h_k (RX.ext E_k) (S6.ext (Ext.trans (Ext.trans (Ext.trans (Ext.trans E7 E_n) E10) E_i) E_k)) (by omega)) ?_
              rintro _ h13 E13 rfl
              refine guard_yes rfl hgd ?_
              refine op_pure (pv_of (v := .bool _) rfl) ?_
              refine op_pure (pv_pickT rfl hgd (v := .bool _) rfl) ?_
              refine xp_condF rfl (by rw [hsf]; simp) ?_
              refine xp_skip ?_
              refine ⟨(), trivial, rfl, rfl, E13, fun h3 E3 => by first | trivial | omega | (refine ⟨?_, ?_⟩ <;> omega), ?_⟩
              repeat (first | exact off_refl _ _ | exact off_base _ _ _ | refine off_upd (by decide) ?_ | refine off_updL rfl ?_ | refine off_mix rfl ?_)
            · have hgd : decide (fewI m hs n i = []) = false := decide_eq_false hg
              refine xp_seq ?_
              refine xp_region rfl ?_
              refine op_pure (pv_move (v := .bool _) rfl) ?_
              refine op_pure (pv_move (v := .bool _) rfl) ?_
              refine guard_no rfl hgd ?_
              refine guard_no rfl hgd ?_
              refine guard_no rfl hgd ?_
              refine guard_no rfl hgd ?_
              refine guard_no rfl hgd ?_
              refine guard_no rfl hgd ?_
              refine guard_no rfl hgd ?_
              refine op_pure (pv_pickF rfl hgd (v := .bool _) rfl) ?_
              refine xp_condF rfl (rfl) ?_
              refine xp_skip ?_
              refine ⟨(), trivial, rfl, rfl, (Ext.refl _), fun h3 E3 => by first | trivial | omega | (refine ⟨?_, ?_⟩ <;> omega), ?_⟩
              repeat (first | exact off_refl _ _ | exact off_base _ _ _ | refine off_upd (by decide) ?_ | refine off_updL rfl ?_ | refine off_mix rfl ?_)
          · rintro u2 T4 h_u2 E_u2 J_u2
            refine goes_norm [_, _, _] rfl ?_
            refine xp_seq ?_
            refine xp_region rfl ?_
            refine op_pure (pv_move (v := .int .i64 _) rfl) ?_
            refine op_pure (pv_arith rfl (by omega)) ?_
            refine op_pure (pv_assign (v := .bool _) rfl) ?_
            refine op_pure (pv_assign (v := .int .i64 _) rfl) ?_
            refine xp_seq ?_
            refine xp_region rfl ?_
            refine op_pure (pv_assign (v := .int .i64 _) rfl) ?_
            refine xp_block ?_
            refine xp_loopL [21, 137, 138, 139, 140, 141, 142, 143, 144, 145, 146, 147, 148, 149, 150, 151, 152, 153, 154, 155, 156, 157] 3 (α := Nat) (fun z => [(21, .int .i64 z)]) (fun z L => L.set 2 (some (bI, .cells (tV (cntH N (fewI m hs n i) (s.take z))).toArray 3 (0, 0)))) (fun z h_z => z ≤ s.length) (fun z => s.length - z) (0) ⟨rfl, trivial⟩ (rfl) (Nat.zero_le _) ?_
            rintro z T5 h_z E_z J_z
            refine goes_norm [_, _, _] rfl ?_
            refine xp_seq ?_
            refine xp_seq ?_
            refine xp_region rfl ?_
            refine op_pure (pv_move (v := .int .i64 _) rfl) ?_
            refine op_pure (pv_move (v := .slice _ _ _) rfl) ?_
            refine op_pure (pv_move (v := .int .i64 _) rfl) ?_
            refine op_pure (pv_indexE (m := 1) rfl hA rfl rfl rfl (by omega) (by omega)) ?_
            refine op_load (v := .slice _ _ _) rfl rfl (((hc.ext (Ext.trans (Ext.trans E_k E_u2) E_z))) 0 _ rfl) ?_
            refine op_pure (pv_len rfl rfl) ?_
            refine op_pure (pv_of (v := .bool _) rfl) ?_
            refine xp_cond rfl (fun hz => ?_) (fun hz => ?_)
            · skip
              have hzl : z < s.length := ltI hz
              obtain ⟨z0, z1⟩ := SS.mem _ (List.getElem_mem hzl)
              have hsp := cntH_step (g := fewI m hs n i) SS hzl
              obtain ⟨g3, off3, hA3, hc3⟩ := (RX.ext (Ext.trans (Ext.trans E_k E_u2) E_z)).at (by omega) hzl
              obtain ⟨Z, hZ⟩ : ∃ Z, Z = cntH N (fewI m hs n i) (s.take z) := ⟨_, rfl⟩
              have hZl : Z.length = N := by rw [hZ, cntH_len]
              have hZV : (tV Z).length = N := by rw [List.length_map, hZl]
              have hZb : 0 ≤ Z.getD s[z].toNat 0 ∧ Z.getD s[z].toNat 0 ≤ 2 ^ 30 := by
                rw [hZ, cntH_at (by omega)]
                have h1 := List.countP_le_length (p := fun u : List Int => decide (((s[z].toNat : Nat) : Int) ∈ u)) (l := fewI m hs n i)
                split <;> omega
              rw [← hZ] at hsp ⊢
              refine xp_skip ?_
              refine xp_seq ?_
              refine xp_block ?_
              refine xp_region rfl ?_
              refine op_pure (pv_move (v := .slice _ _ _) rfl) ?_
              refine op_pure (pv_move (v := .slice _ _ _) rfl) ?_
              refine op_pure (pv_move (v := .int .i64 _) rfl) ?_
              refine op_pure (pv_indexE (m := 1) rfl hA rfl rfl rfl (by omega) (by omega)) ?_
              refine op_load (v := .slice _ _ _) rfl rfl (((hc.ext (Ext.trans (Ext.trans E_k E_u2) E_z))) 0 _ rfl) ?_
              refine op_pure (pv_move (v := .int .i64 _) rfl) ?_
              refine op_pure (pv_indexE (m := 1) rfl hA3 rfl rfl rfl (by omega) (by omega)) ?_
              refine op_load (v := .int .i64 _) rfl rfl ((hc3) 0 _ rfl) ?_
              refine op_pure (pv_index (m := 1) rfl rfl rfl rfl (by omega) (by omega)) ?_
              refine op_loadP 2 (v := .int .i64 (Z.getD s[z].toNat 0)) rfl rfl rfl (tV_at (by omega) (by omega)) ?_
              refine op_pure (pv_arith rfl (by omega)) ?_
              refine op_pure (pv_index (m := 1) rfl rfl rfl rfl (by omega) (by omega)) ?_
              refine op_storeP 2 (m := 1) (v := .int .i64 _) (vs := [.int .i64 (Z.getD s[z].toNat 0 + 1)]) (c' := tV (cntH N (fewI m hs n i) (s.take (z + 1)))) rfl rfl rfl rfl rfl rfl (Nat.ble_eq_true_of_le (by rw [hZV]; omega)) rfl (by rw [← hsp]; exact wrL_set (by omega)) ?_
              refine wp_norm [_, _, _] rfl ?_
              refine xp_region rfl ?_
              refine op_pure (pv_move (v := .int .i64 _) rfl) ?_
              refine op_pure (pv_arith rfl (by omega)) ?_
              refine op_pure (pv_assign (v := .int .i64 _) rfl) ?_
              refine ⟨z + 1, ⟨rfl, trivial⟩, rfl, rfl, E_z, fun h3 E3 => hzl, by first | omega | (dsimp only; omega), ?_⟩
              repeat (first | exact off_base _ _ _ | refine off_upd (by decide) ?_ | refine off_updL rfl ?_ | refine off_mix rfl ?_)
            · skip
              have hze : z = s.length := by have := geI hz; omega
              subst hze
              refine xp_exit ?_
              refine xp_region rfl ?_
              refine op_pure (pv_move (v := .int .i64 _) rfl) ?_
              refine op_pure (pv_arith rfl (by omega)) ?_
              refine op_pure (pv_assign (v := .int .i64 _) rfl) ?_
              refine ⟨i + 1, ⟨rfl, boolE (by rw [hst]; simp), intE (by rw [hgl]; omega), trivial⟩, rfl, by rw [List.take_length, cntH_done, ← hst]; rfl, (Ext.trans (Ext.trans (Ext.trans E_i E_k) E_u2) E_z), fun h3 E3 => hil, by first | omega | (dsimp only; omega), ?_⟩
              repeat (first | exact off_base _ _ _ | refine off_upd (by decide) ?_ | refine off_updL rfl ?_ | refine off_mix rfl ?_)
    · skip
      have hie : i = rs.length := by have := geI hi; omega
      have hall : fewI m hs n i = fewG m hs (n + 1) := by rw [hie, hrs, hNN]; exact fewI_all m hs n
      rw [hall]
      refine xp_exit ?_
      refine xp_region rfl ?_
      refine op_pure (pv_move (v := .int .i64 _) rfl) ?_
      refine op_pure (pv_arith rfl (by omega)) ?_
      refine op_pure (pv_assign (v := .int .i64 _) rfl) ?_
      refine ⟨n + 1, ⟨rfl, rfl, rfl, trivial⟩, rfl, rfl, (Ext.trans (Ext.trans E_n E10) E_i), fun h3 E3 => by omega, by first | omega | (dsimp only; omega), ?_⟩
      repeat (first | exact off_base _ _ _ | refine off_upd (by decide) ?_ | refine off_updL rfl ?_ | refine off_mix rfl ?_)
  · skip
    have hne : n = d + 1 := by have := of_decide_eq_false hn; omega
    have hgF : fewG m hs n = F := by rw [hne, hF]; exact fewG_all hFz
    rw [hgF]
    refine xp_exit ?_
    refine xp_seq ?_
    refine xp_seq ?_
    refine xp_region rfl ?_
    refine op_pure (pv_assign (v := .int .i64 _) rfl) ?_
    refine xp_block ?_
    refine xp_loopB [2, 22, 23, 158, 159, 160, 161, 162, 163, 164, 165, 166, 167, 168, 169, 170, 171, 172, 173, 174, 175, 176, 177] 3 (α := Nat) (fun q => [(22, .int .i64 q)]) (fun q => _) (fun q h_q => q ≤ N) (fun q => N - q) (0) ⟨rfl, trivial⟩ (rfl) (Nat.zero_le _) ?_
    rintro q T6 h_q E_q J_q
    refine goes_norm [_, _, _] rfl ?_
    refine xp_seq ?_
    refine xp_seq ?_
    refine xp_region rfl ?_
    refine op_pure (pv_move (v := .int .i64 _) rfl) ?_
    refine op_pure (pv_move (v := .int .i64 _) rfl) ?_
    refine op_pure (pv_of (v := .bool _) rfl) ?_
    refine xp_cond rfl (fun hq => ?_) (fun hq => ?_)
    · skip
      have hql : q < N := by have := of_decide_eq_true hq; omega
      have hqb : q < bl.length := by omega
      have hin := cntH_in (g := F) hql
      have hble : bl[q] = valB (inN F (q : Int) F.length) F.length := by simp [hbl, blameK]
      obtain ⟨g3, off3, hA3, hc3⟩ := (S7.ext (Ext.trans E_n E_q)).at (by omega) hqb
      refine xp_skip ?_
      refine xp_seq ?_
      refine xp_block ?_
      refine xp_seq ?_
      refine xp_region rfl ?_
      refine op_pure (pv_assign (v := .int .i64 _) rfl) ?_
      refine xp_seq ?_
      refine xp_seq ?_
      refine xp_region rfl ?_
      refine op_pure (pv_move (v := .slice _ _ _) rfl) ?_
      refine op_pure (pv_move (v := .int .i64 _) rfl) ?_
      refine op_pure (pv_index (m := 1) rfl rfl rfl rfl (by omega) (by omega)) ?_
      refine op_loadP 2 (v := .int .i64 (inN F (q : Int) F.length : Nat)) rfl rfl rfl (by rw [← hin]; exact tV_at (by omega) (by rw [cntH_len]; omega)) ?_
      refine xp_block ?_
      refine xp_seq ?_
      refine xp_region rfl ?_
      refine op_pure (pv_move (v := .int .i64 _) rfl) ?_
      refine op_pure (pv_of (v := .bool _) rfl) ?_
      refine op_pure (pv_assign (v := .bool _) rfl) ?_
      refine xp_cond rfl (fun h1 => ?_) (fun h1 => ?_)
      · skip
        have h1' : inN F (q : Int) F.length = F.length := by simp at h1; omega
        rw [valB, if_pos h1'] at hble
        refine xp_region rfl ?_
        refine op_pure (pv_assign (v := .int .i64 _) rfl) ?_
        refine xp_seq ?_
        refine xp_region rfl ?_
        refine op_pure (pv_move (v := .slice _ _ _) rfl) ?_
        refine op_pure (pv_move (v := .int .i64 _) rfl) ?_
        refine op_pure (pv_indexE rfl hA3 rfl rfl rfl (by omega) (by omega)) ?_
        refine op_load (v := .int .i64 _) rfl rfl ((hc3) 0 _ rfl) ?_
        refine op_pure (pv_move (v := .int .i64 _) rfl) ?_
        refine op_pure (pv_of (v := .bool _) rfl) ?_
        refine xp_condF rfl (by rw [hble]; rfl) ?_
        refine xp_skip ?_
        refine xp_region rfl ?_
        refine op_pure (pv_move (v := .int .i64 _) rfl) ?_
        refine op_pure (pv_arith rfl (by omega)) ?_
        refine op_pure (pv_assign (v := .int .i64 _) rfl) ?_
        refine ⟨q + 1, ⟨rfl, trivial⟩, rfl, rfl, E_q, fun h3 E3 => hql, by first | omega | (dsimp only; omega), ?_⟩
        repeat (first | exact off_base _ _ _ | refine off_upd (by decide) ?_ | refine off_updL rfl ?_ | refine off_mix rfl ?_)
      · skip
        have h1' : ¬ inN F (q : Int) F.length = F.length := by simp at h1; omega
        rw [valB, if_neg h1'] at hble
        refine xp_seq ?_
        refine xp_region rfl ?_
        refine op_pure (pv_of (v := .bool _) rfl) ?_
        refine op_pure (pv_assign (v := .bool _) rfl) ?_
        refine xp_cond rfl (fun h2 => ?_) (fun h2 => ?_)
        · skip
          have h2' : inN F (q : Int) F.length = 0 := by simp at h2; omega
          rw [if_pos h2'] at hble
          refine xp_region rfl ?_
          refine op_pure (pv_assign (v := .int .i64 _) rfl) ?_
          refine xp_seq ?_
          refine xp_region rfl ?_
          refine op_pure (pv_move (v := .slice _ _ _) rfl) ?_
          refine op_pure (pv_move (v := .int .i64 _) rfl) ?_
          refine op_pure (pv_indexE rfl hA3 rfl rfl rfl (by omega) (by omega)) ?_
          refine op_load (v := .int .i64 _) rfl rfl ((hc3) 0 _ rfl) ?_
          refine op_pure (pv_move (v := .int .i64 _) rfl) ?_
          refine op_pure (pv_of (v := .bool _) rfl) ?_
          refine xp_condF rfl (by rw [hble]; rfl) ?_
          refine xp_skip ?_
          refine xp_region rfl ?_
          refine op_pure (pv_move (v := .int .i64 _) rfl) ?_
          refine op_pure (pv_arith rfl (by omega)) ?_
          refine op_pure (pv_assign (v := .int .i64 _) rfl) ?_
          refine ⟨q + 1, ⟨rfl, trivial⟩, rfl, rfl, E_q, fun h3 E3 => hql, by first | omega | (dsimp only; omega), ?_⟩
          repeat (first | exact off_base _ _ _ | refine off_upd (by decide) ?_ | refine off_updL rfl ?_ | refine off_mix rfl ?_)
        · skip
          have h2' : ¬ inN F (q : Int) F.length = 0 := by simp at h2; omega
          rw [if_neg h2'] at hble
          refine xp_skip ?_
          refine xp_seq ?_
          refine xp_region rfl ?_
          refine op_pure (pv_move (v := .slice _ _ _) rfl) ?_
          refine op_pure (pv_move (v := .int .i64 _) rfl) ?_
          refine op_pure (pv_indexE rfl hA3 rfl rfl rfl (by omega) (by omega)) ?_
          refine op_load (v := .int .i64 _) rfl rfl ((hc3) 0 _ rfl) ?_
          refine op_pure (pv_move (v := .int .i64 _) rfl) ?_
          refine op_pure (pv_of (v := .bool _) rfl) ?_
          refine xp_condF rfl (by rw [hble]; rfl) ?_
          refine xp_skip ?_
          refine xp_region rfl ?_
          refine op_pure (pv_move (v := .int .i64 _) rfl) ?_
          refine op_pure (pv_arith rfl (by omega)) ?_
          refine op_pure (pv_assign (v := .int .i64 _) rfl) ?_
          refine ⟨q + 1, ⟨rfl, trivial⟩, rfl, rfl, E_q, fun h3 E3 => hql, by first | omega | (dsimp only; omega), ?_⟩
          repeat (first | exact off_base _ _ _ | refine off_upd (by decide) ?_ | refine off_updL rfl ?_ | refine off_mix rfl ?_)
    · skip
      have e5 : (!decide (F = [])) = true := by
        have : F ≠ [] := fun e => by rw [e] at hFl; exact absurd hFl (by decide)
        simp [this]
      refine xp_exit ?_
      refine xp_seq ?_
      refine xp_region rfl ?_
      refine op_pure (pv_move (v := .bool _) rfl) ?_
      refine op_pure (pv_of (v := .bool _) rfl) ?_
      refine op_pure (pv_move (v := .bool _) rfl) ?_
      refine guard_yes rfl e5 ?_
      refine op_fn (caps := []) (vs := []) rfl rfl rfl (rod_sounding rfl h_q) ?_
      rintro _ h26 E26 rfl
      refine op_pure (pv_pickT rfl e5 (v := .bool _) rfl) ?_
      refine op_pure (pv_assign (v := .bool _) rfl) ?_
      refine xp_ret ?_
      exact ⟨rfl, fun V => (Ext.trans (Ext.trans (Ext.trans (Ext.trans (Ext.trans (Ext.trans (Ext.trans (Ext.trans (Ext.trans E1 E2) E4) E5) E6) E7) E_n) E_q) E26) (ext_wl V)), rfl⟩
end
end Go.Proofs.Ythphpbdmbmiaiaa
