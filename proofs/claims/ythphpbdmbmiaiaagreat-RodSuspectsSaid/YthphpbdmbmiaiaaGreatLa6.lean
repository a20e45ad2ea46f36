/- An own logic over the model, its walks and its plain laws, joined of parts R39 Rt R40 R41 R42 R43 R44 R45 R46 R47 R48 R49 R50 R51 R62 R53. Conditions: as each theorem states. -/
import Derived.Test.YthphpbdmbmiaiaaGreatLa5
import Derived.Test.YthphpbdmbmiaiaaGreatLa3
set_option linter.all false
namespace Go.Proofs.YthphpbdmbmiaiaaGreat
open Go Go.HL Go.Proofs Go.Wx Go.Rd
section
variable [Lvl]
set_option maxRecDepth 100000
theorem flat_take {α : Type} (enc : α → List Value) (l : List α) (k : Nat) : (l.take k).flatMap enc = (l.flatMap enc).take ((l.take k).flatMap enc).length := by
 have e : l.flatMap enc = (l.take k).flatMap enc ++ (l.drop k).flatMap enc := by rw [← List.flatMap_append, List.take_append_drop]
 rw [e, List.take_left']
 rfl
theorem flat_drop {α : Type} (enc : α → List Value) (l : List α) (k : Nat) : (l.drop k).flatMap enc = (l.flatMap enc).drop ((l.take k).flatMap enc).length := by
 have e : l.flatMap enc = (l.take k).flatMap enc ++ (l.drop k).flatMap enc := by rw [← List.flatMap_append, List.take_append_drop]
 rw [e, List.drop_left']
 rfl
theorem row_take {α : Type} {enc : α → List Value} {h : AH} {A : Option Addr} {l : List α} {m : Nat} (R : Row h m enc A l) (k : Nat) : Row h m enc A (l.take k) :=
 ⟨fun x hx => R.1 x (take_mem hx), by rw [flat_take]; exact rd_take R.2 _⟩
theorem row_drop {α : Type} {enc : α → List Value} {h : AH} {A : Option Addr} {l : List α} {m k cap : Nat} (R : Row h m enc A l) (hk : k ≤ l.length) (hc : l.length ≤ cap) : Row h m enc (if cap = k then A else A.map (·.add (k * m))) (l.drop k) := by
 refine ⟨fun x hx => R.1 x (List.mem_of_mem_drop hx), ?_⟩
 split
 ·rw [List.drop_of_length_le (by omega)]
  exact Rd.nil _ _
 ·have e : ((l.take k).flatMap enc).length = k * m := by
   rw [wN (m := m) (fun x hx => R.1 x (take_mem hx)), List.length_take, Nat.min_eq_left hk]
  have := rd_drop R.2 (k * m)
  rw [flat_drop, e]
  exact this
theorem row_acc {α : Type} {e : TypeId} {m : Nat} {enc : α → List Value} {l : List α} {a : Acc} {L : Pv} {h : AH} {i : Nat} (r : AccR e m (l.flatMap enc) a) (hm : 0 < m) (hl : ∀ x ∈ l, (enc x).length = m) (V : Valid h L) (hi : L[i]? = some a.p) : Row (wl h L) m enc a.A l := by
 obtain ⟨A', c', e, r⟩ := AccP.row r hm hl V hi
 injection e with e1 e2 e3
 rw [e1]
 exact r
set_option maxHeartbeats 2000000 in
theorem WithoutPinR_ok (m : MachP) (i : Nat) (hi : i < m.pins.length) (hl : m.pins.length < 2 ^ 20) (AB AQ AL AW : Option Addr) (cB cQ cL cW : Nat) (hc : m.pins.length ≤ cQ) (h : AH) (R : Row h 3 pinC AQ m.pins) :
  FnT Tryz.prog 87 #[machV AB AQ AL AW cB cQ cL cW m, .int .i64 i] h (fun v h' => ∃ A c, v = machV AB A AL AW cB c cL cW { m with pins := m.pins.eraseIdx i } ∧ Row h' 3 pinC A (m.pins.eraseIdx i) ∧ (m.pins.eraseIdx i).length ≤ c) := by
 have el : (m.pins.take i).length = i := by rw [List.length_take]; omega
 have ee : m.pins.eraseIdx i = m.pins.take i ++ m.pins.drop (i + 1) := List.eraseIdx_eq_take_drop_succ ..
 have ed : (m.pins.drop (i + 1)).length = m.pins.length - (i + 1) := List.length_drop ..
 refine wM Tryz.func87 rfl Tryz.ntmps87 rfl ?_
 refine qE ?_
 refine qB rfl ?_
 refine zG (v := .agg #[.int .i64 _, .int .i64 _, .int .i64 _, .int .i64 _, .int .i64 _, .slice _ _ _, .slice _ _ _, .slice _ _ _, .slice _ _ _]) (cs := [_, _, _, _, _, _, _, _, _]) rfl rfl fun b2 hb2 => ?_
 refine qL [_] rfl ?_
 refine zF (cs := [_, _, _, _, _, _, _, _, _]) rfl rfl fun b4 hb4 => ?_
 refine qL [_, _] rfl ?_
 refine qE ?_
 refine xp_dw [false, false, true] rfl rfl rfl ?_
 refine qI (i := 1) rfl (by decide +kernel) (qF rfl rfl rfl rfl 6 rfl) ?_
 refine wH (i := 2) rfl (by decide +kernel) ?_
 refine qJ 0 (v := .slice _ _ _) rfl rfl rfl rfl ?_
 refine qI (i := 3) rfl (by decide +kernel) (qC (v := .int .i64 _) rfl) ?_
 refine qI (i := 4) rfl (by decide +kernel) (pv_sliceHi i rfl rfl rfl rfl rfl (by omega)) ?_
 have R1 := row_take R i
 have R2 := row_drop (k := i + 1) (cap := cQ) R hi hc
 refine qI (i := 6) rfl (by decide +kernel) (qF rfl rfl rfl rfl 6 rfl) ?_
 refine wH (i := 7) rfl (by decide +kernel) ?_
 refine qJ 0 (v := .slice _ _ _) rfl rfl rfl rfl ?_
 refine qI (i := 8) rfl (by decide +kernel) (qC (v := .int .i64 _) rfl) ?_
 refine qI (i := 9) rfl (by decide +kernel) (qS rfl (by omega)) ?_
 refine qI (i := 10) rfl (by decide +kernel) (pv_sliceLo (i + 1) rfl rfl (by omega) rfl rfl (by omega) hc) ?_
 refine dw_eff (i := 0) rfl (by decide +kernel) ?_
 refine wA (zc := [_, _, _]) (vs := []) (cs := []) rfl rfl rfl rfl rfl rfl rfl fun b5 hb5 => ?_
 refine ⟨ext_newM hb5 _, ?_⟩
 refine wY [_, _, _] rfl ?_
 refine dw_eff (i := 5) rfl (by decide +kernel) ?_
 refine wZ 2 accR_new rfl rfl rfl (fun V => R1.2.ext (zT (Ext.refl _) (qX V))) ((wN R1.1).trans (congrArg (· * 3) el)) (flat_plain pinP (m.pins.take i)) rfl rfl rfl rfl rfl rfl rfl (by omega) rfl (by have e1 := wN R1.1; rw [List.length_nil]; omega) fun a1 h1a E1a ha1 => ?_
 refine ⟨ext_wlm E1a _, ?_⟩
 refine wY [_, _, _] rfl ?_
 refine zA (i := 11) rfl (by decide +kernel) (by decide +kernel) ?_
 refine wZ 2 ha1 rfl rfl rfl (fun V => R2.2.ext (zT E1a (qX V))) ((wN R2.1).trans (congrArg (· * 3) ed)) (flat_plain pinP (m.pins.drop (i + 1))) rfl rfl rfl rfl rfl rfl rfl (by omega) rfl (by have e1 := wN R1.1; have e2 := wN R2.1; rw [List.nil_append]; omega) fun a2 h2a E2a ha2 => ?_
 refine wY [_, _, _] rfl ?_
 refine qI (i := 12) rfl (by decide +kernel) (qF rfl rfl rfl rfl 6 rfl) ?_
 refine zA (i := 13) rfl (by decide +kernel) (by decide +kernel) ?_
 refine wI 0 (v := .slice _ _ _) (vs := [_]) (c' := [_, _, _, _, _, _, _, _, _]) rfl rfl rfl rfl rfl rfl rfl rfl rfl ?_
 refine wY [_, _, _] rfl ?_
 refine zN rfl ?_
 refine qE ?_
 refine qB rfl ?_
 refine qY 0 (vs := [.int .i64 _, .int .i64 _, .int .i64 _, .int .i64 _, .int .i64 _, .slice _ _ _, .slice _ _ _, .slice _ _ _, .slice _ _ _]) rfl rfl rfl rfl rfl ?_
 refine wI 1 (v := .agg #[.int .i64 _, .int .i64 _, .int .i64 _, .int .i64 _, .int .i64 _, .slice _ _ _, .slice _ _ _, .slice _ _ _, .slice _ _ _]) (vs := [_, _, _, _, _, _, _, _, _]) (c' := [_, _, _, _, _, _, _, _, _]) rfl rfl rfl rfl rfl rfl rfl rfl rfl ?_
 refine qL [_, _, _] rfl ?_
 have ha3 : AccR 71 3 ((m.pins.eraseIdx i).flatMap pinC) a2 := by rw [ee, List.flatMap_append]; exact ha2
 obtain ⟨p8, A8, n8, c8⟩ := a2
 obtain rfl : n8 = (m.pins.eraseIdx i).length := by have := AccR.len ha3; rw [wN (m := 3) (fun _ _ => rfl)] at this; dsimp only at this; omega
 refine qZ ?_
 refine qP (vs := [_]) Tryz.results87 ⟨resV_agg 1 rfl rfl rfl rfl rfl (vs := [.int .i64 _, .int .i64 _, .int .i64 _, .int .i64 _, .int .i64 _, .slice _ _ _, .slice _ _ _, .slice _ _ _, .slice _ _ _]) rfl, trivial⟩ fun V => ?_
 exact ⟨(zT (zT E1a E2a) (qX V)), A8, c8, rfl, row_acc (i := 2) ha3 (by omega) (fun _ _ => rfl) V rfl, AccP.cap ha3 (by omega)⟩
set_option maxHeartbeats 2000000 in
theorem WithoutLinkR_ok (m : MachP) (i : Nat) (hi : i < m.links.length) (hl : m.links.length < 2 ^ 20) (AB AQ AL AW : Option Addr) (cB cQ cL cW : Nat) (hc : m.links.length ≤ cL) (h : AH) (R : Row h 4 linkC AL m.links) :
  FnT Tryz.prog 88 #[machV AB AQ AL AW cB cQ cL cW m, .int .i64 i] h (fun v h' => ∃ A c, v = machV AB AQ A AW cB cQ c cW { m with links := m.links.eraseIdx i } ∧ Row h' 4 linkC A (m.links.eraseIdx i) ∧ (m.links.eraseIdx i).length ≤ c) := by
 have el : (m.links.take i).length = i := by rw [List.length_take]; omega
 have ee : m.links.eraseIdx i = m.links.take i ++ m.links.drop (i + 1) := List.eraseIdx_eq_take_drop_succ ..
 have ed : (m.links.drop (i + 1)).length = m.links.length - (i + 1) := List.length_drop ..
 refine wM Tryz.func88 rfl Tryz.ntmps88 rfl ?_
 refine qE ?_
 refine qB rfl ?_
 refine zG (v := .agg #[.int .i64 _, .int .i64 _, .int .i64 _, .int .i64 _, .int .i64 _, .slice _ _ _, .slice _ _ _, .slice _ _ _, .slice _ _ _]) (cs := [_, _, _, _, _, _, _, _, _]) rfl rfl fun b2 hb2 => ?_
 refine qL [_] rfl ?_
 refine zF (cs := [_, _, _, _, _, _, _, _, _]) rfl rfl fun b4 hb4 => ?_
 refine qL [_, _] rfl ?_
 refine qE ?_
 refine xp_dw [false, false, true] rfl rfl rfl ?_
 refine qI (i := 1) rfl (by decide +kernel) (qF rfl rfl rfl rfl 7 rfl) ?_
 refine wH (i := 2) rfl (by decide +kernel) ?_
 refine qJ 0 (v := .slice _ _ _) rfl rfl rfl rfl ?_
 refine qI (i := 3) rfl (by decide +kernel) (qC (v := .int .i64 _) rfl) ?_
 refine qI (i := 4) rfl (by decide +kernel) (pv_sliceHi i rfl rfl rfl rfl rfl (by omega)) ?_
 have R1 := row_take R i
 have R2 := row_drop (k := i + 1) (cap := cL) R hi hc
 refine qI (i := 6) rfl (by decide +kernel) (qF rfl rfl rfl rfl 7 rfl) ?_
 refine wH (i := 7) rfl (by decide +kernel) ?_
 refine qJ 0 (v := .slice _ _ _) rfl rfl rfl rfl ?_
 refine qI (i := 8) rfl (by decide +kernel) (qC (v := .int .i64 _) rfl) ?_
 refine qI (i := 9) rfl (by decide +kernel) (qS rfl (by omega)) ?_
 refine qI (i := 10) rfl (by decide +kernel) (pv_sliceLo (i + 1) rfl rfl (by omega) rfl rfl (by omega) hc) ?_
 refine dw_eff (i := 0) rfl (by decide +kernel) ?_
 refine wA (zc := [_, _, _, _]) (vs := []) (cs := []) rfl rfl rfl rfl rfl rfl rfl fun b5 hb5 => ?_
 refine ⟨ext_newM hb5 _, ?_⟩
 refine wY [_, _, _] rfl ?_
 refine dw_eff (i := 5) rfl (by decide +kernel) ?_
 refine wZ 2 accR_new rfl rfl rfl (fun V => R1.2.ext (zT (Ext.refl _) (qX V))) ((wN R1.1).trans (congrArg (· * 4) el)) (flat_plain linkP (m.links.take i)) rfl rfl rfl rfl rfl rfl rfl (by omega) rfl (by have e1 := wN R1.1; rw [List.length_nil]; omega) fun a1 h1a E1a ha1 => ?_
 refine ⟨ext_wlm E1a _, ?_⟩
 refine wY [_, _, _] rfl ?_
 refine zA (i := 11) rfl (by decide +kernel) (by decide +kernel) ?_
 refine wZ 2 ha1 rfl rfl rfl (fun V => R2.2.ext (zT E1a (qX V))) ((wN R2.1).trans (congrArg (· * 4) ed)) (flat_plain linkP (m.links.drop (i + 1))) rfl rfl rfl rfl rfl rfl rfl (by omega) rfl (by have e1 := wN R1.1; have e2 := wN R2.1; rw [List.nil_append]; omega) fun a2 h2a E2a ha2 => ?_
 refine wY [_, _, _] rfl ?_
 refine qI (i := 12) rfl (by decide +kernel) (qF rfl rfl rfl rfl 7 rfl) ?_
 refine zA (i := 13) rfl (by decide +kernel) (by decide +kernel) ?_
 refine wI 0 (v := .slice _ _ _) (vs := [_]) (c' := [_, _, _, _, _, _, _, _, _]) rfl rfl rfl rfl rfl rfl rfl rfl rfl ?_
 refine wY [_, _, _] rfl ?_
 refine zN rfl ?_
 refine qE ?_
 refine qB rfl ?_
 refine qY 0 (vs := [.int .i64 _, .int .i64 _, .int .i64 _, .int .i64 _, .int .i64 _, .slice _ _ _, .slice _ _ _, .slice _ _ _, .slice _ _ _]) rfl rfl rfl rfl rfl ?_
 refine wI 1 (v := .agg #[.int .i64 _, .int .i64 _, .int .i64 _, .int .i64 _, .int .i64 _, .slice _ _ _, .slice _ _ _, .slice _ _ _, .slice _ _ _]) (vs := [_, _, _, _, _, _, _, _, _]) (c' := [_, _, _, _, _, _, _, _, _]) rfl rfl rfl rfl rfl rfl rfl rfl rfl ?_
 refine qL [_, _, _] rfl ?_
 have ha3 : AccR 73 4 ((m.links.eraseIdx i).flatMap linkC) a2 := by rw [ee, List.flatMap_append]; exact ha2
 obtain ⟨p8, A8, n8, c8⟩ := a2
 obtain rfl : n8 = (m.links.eraseIdx i).length := by have := AccR.len ha3; rw [wN (m := 4) (fun _ _ => rfl)] at this; dsimp only at this; omega
 refine qZ ?_
 refine qP (vs := [_]) Tryz.results88 ⟨resV_agg 1 rfl rfl rfl rfl rfl (vs := [.int .i64 _, .int .i64 _, .int .i64 _, .int .i64 _, .int .i64 _, .slice _ _ _, .slice _ _ _, .slice _ _ _, .slice _ _ _]) rfl, trivial⟩ fun V => ?_
 exact ⟨(zT (zT E1a E2a) (qX V)), A8, c8, rfl, row_acc (i := 2) ha3 (by omega) (fun _ _ => rfl) V rfl, AccP.cap ha3 (by omega)⟩
def conK : Nat → Nat → FaultP
 | 0 => .shut
 | 1 => .opn
 | 2 => .pin
 | _ => .link
def cntK (m : MachP) : Nat → Nat
 | 0 => m.levers.toNat
 | 1 => m.levers.toNat
 | 2 => m.pins.length
 | 3 => m.links.length
 | _ => 0
def fsK (m : MachP) : Nat → List FaultP
 | 0 => []
 | q + 1 => fsK m q ++ fsN (conK q) (cntK m q)
theorem fsK4 (m : MachP) : fsK m 4 = faultsM m := by simp [fsK, faultsM, fs3, fs2, fs1, conK, cntK]
theorem toldK {q : Nat} (hq : q < 4) (i : Nat) : toldC (conK q i) = [.int .i64 ((q : Int) + 1), .int .i64 i] := by
 match q, hq with
 | 0, _ => rfl
 | 1, _ => rfl
 | 2, _ => rfl
 | 3, _ => rfl
theorem cntK_at {m : MachP} {q : Nat} (hq : q < 4) (h0 : 0 ≤ m.levers) : [m.levers, m.levers, (m.pins.length : Int), (m.links.length : Int)].getD q 0 = (cntK m q : Nat) := by
 match q, hq with
 | 0, _ => show m.levers = (m.levers.toNat : Int); omega
 | 1, _ => show m.levers = (m.levers.toNat : Int); omega
 | 2, _ => rfl
 | 3, _ => rfl
theorem cntK_le {m : MachP} (M : MOK m) (q : Nat) : cntK m q ≤ 8 := by
 have := M.levers
 have := M.pl
 have := M.ll
 match q with
 | 0 => show m.levers.toNat ≤ 8; omega
 | 1 => show m.levers.toNat ≤ 8; omega
 | 2 => show m.pins.length ≤ 8; omega
 | 3 => show m.links.length ≤ 8; omega
 | q + 4 => exact Nat.zero_le _
theorem fsK_len {m : MachP} (M : MOK m) : ∀ q, (fsK m q).length ≤ 8 * q
 | 0 => Nat.le_refl _
 | q + 1 => by
  have h1 := fsK_len M q
  have h2 := cntK_le M q
  rw [fsK, List.length_append, fsN_len]
  omega
set_option maxHeartbeats 2000000 in
theorem faultsR_ok (m : MachP) (M : MOK m) (AB AQ AL AW : Option Addr) (cB cQ cL cW : Nat) (h : AH) :
  FnT Tryz.prog 49 #[machV AB AQ AL AW cB cQ cL cW m] h (fun v h' => SlR h' 2 toldC (faultsM m) v) := by
 have mlv := M.levers
 have mpl := M.pl
 have mll := M.ll
 refine wM Tryz.func49 rfl Tryz.ntmps49 rfl ?_
 refine qE ?_
 refine qB rfl ?_
 refine zG (v := .agg #[.int .i64 _, .int .i64 _, .int .i64 _, .int .i64 _, .int .i64 _, .slice _ _ _, .slice _ _ _, .slice _ _ _, .slice _ _ _]) (cs := [_, _, _, _, _, _, _, _, _]) rfl rfl fun b1 hb1 => ?_
 refine qL [_] rfl ?_
 refine qA (qD (v := .slice _ _ _) rfl) ?_
 refine goes_more ?_
 refine qT [_, _] rfl ?_
 refine qE ?_
 refine qB rfl ?_
 refine qA (qD (v := .slice _ _ _) rfl) ?_
 refine qE ?_
 refine qB rfl ?_
 refine qA (qF rfl rfl rfl rfl 1 rfl) ?_
 refine qJ 0 (v := .int .i64 _) rfl rfl rfl rfl ?_
 refine qA (qF rfl rfl rfl rfl 1 rfl) ?_
 refine qJ 0 (v := .int .i64 _) rfl rfl rfl rfl ?_
 refine qA (qF rfl rfl rfl rfl 6 rfl) ?_
 refine qJ 0 (v := .slice _ _ _) rfl rfl rfl rfl ?_
 refine qA (wK rfl rfl) ?_
 refine qA (qF rfl rfl rfl rfl 7 rfl) ?_
 refine qJ 0 (v := .slice _ _ _) rfl rfl rfl rfl ?_
 refine qA (wK rfl rfl) ?_
 refine wA (zc := [_]) (vs := [(0, .int .i64 _), (1, .int .i64 _), (2, .int .i64 _), (3, .int .i64 _)]) (cs := [_, _, _, _]) rfl rfl rfl rfl rfl rfl rfl fun b17 hb17 => ?_
 refine qL [_, _, _] rfl ?_
 refine qA (qD (v := .slice _ _ _) rfl) ?_
 refine qE ?_
 refine qE ?_
 refine qB rfl ?_
 refine qA (qD (v := .int .i64 _) rfl) ?_
 refine qQ ?_
 refine zH [3, 5, 6, 18, 19, 20, 21, 22, 23, 24, 25, 26, 27, 28, 29, 30, 31, 32, 33, 34, 35, 36] 3 (α := Nat × Acc) (fun ⟨q, a⟩ => [(5, .int .i64 ((q : Int) + 1)), (3, .slice a.A a.n a.c)]) (fun ⟨q, a⟩ L => L.set 1 (a.p)) (fun ⟨q, a⟩ h_q => q ≤ 4 ∧ AccR 128 2 ((fsK m q).flatMap toldC) a) (fun ⟨q, a⟩ => 4 - q) ((0, acc0)) ⟨rfl, rfl, trivial⟩ (rfl) (⟨Nat.zero_le _, accR0⟩) ?_
 rintro ⟨q, a⟩ T1 h_q E_q J_q
 refine qT [_, _, _] rfl ?_
 obtain ⟨J1, J2⟩ := J_q
 refine qE ?_
 refine qE ?_
 refine qB rfl ?_
 refine qA (qC (v := .int .i64 _) rfl) ?_
 refine qA (qN (v := .bool _) rfl) ?_
 refine qU rfl (fun hq => ?_) (fun hq => ?_)
 ·skip
  have hql : q < 4 := by have := of_decide_eq_true hq; omega
  have hcn := cntK_at (m := m) hql (by omega)
  have hcl := cntK_le M q
  have hfl := fsK_len M q
  refine qR ?_
  refine qE ?_
  refine qQ ?_
  refine qE ?_
  refine qB rfl ?_
  refine qA (qD (v := .int .i64 _) rfl) ?_
  refine qQ ?_
  refine zH [3, 6, 22, 23, 24, 25, 26, 27, 28, 29, 30, 31, 32, 33, 34, 35, 36] 3 (α := Nat × Acc) (fun ⟨i, a2⟩ => [(6, .int .i64 i), (3, .slice a2.A a2.n a2.c)]) (fun ⟨i, a2⟩ L => L.set 1 (a2.p)) (fun ⟨i, a2⟩ h_i => i ≤ cntK m q ∧ AccR 128 2 ((fsK m q ++ fsN (conK q) i).flatMap toldC) a2) (fun ⟨i, a2⟩ => cntK m q - i) ((0, a)) ⟨rfl, rfl, trivial⟩ (rfl) (⟨Nat.zero_le _, by simpa [fsN] using J2⟩) ?_
  rintro ⟨i, a2⟩ T2 h_i E_i J_i
  refine qT [_, _, _] rfl ?_
  obtain ⟨K1, K2⟩ := J_i
  refine qE ?_
  refine qE ?_
  refine qB rfl ?_
  refine qA (qC (v := .int .i64 _) rfl) ?_
  refine qA (qC (v := .slice _ _ _) rfl) ?_
  refine qA (qC (v := .int .i64 _) rfl) ?_
  refine qA (qS rfl (by omega)) ?_
  refine qA (pv_index (m := 1) rfl rfl rfl rfl (by omega) (by omega)) ?_
  refine qJ 2 (v := .int .i64 (cntK m q : Nat)) rfl rfl rfl (by rw [← hcn]; exact tV_at (t := [m.levers, m.levers, (m.pins.length : Int), (m.links.length : Int)]) (by omega) hql) ?_
  refine qA (qN (v := .bool _) rfl) ?_
  refine qU rfl (fun hi => ?_) (fun hi => ?_)
  ·skip
   have hil : i < cntK m q := ltI hi
   have hln : ((fsK m q ++ fsN (conK q) i).flatMap toldC).length = ((fsK m q).length + i) * 2 := by rw [wN (m := 2) (fun x _ => toldM x), List.length_append, fsN_len]
   refine qR ?_
   refine qE ?_
   refine qQ ?_
   refine qB rfl ?_
   refine qA (qC (v := .slice _ _ _) rfl) ?_
   refine qA (qC (v := .int .i64 _) rfl) ?_
   refine qA (qC (v := .int .i64 _) rfl) ?_
   refine qA (pv_build (zc := [_, _]) (vs := [(0, .int .i64 _), (1, .int .i64 _)]) (cs := [_, _]) rfl rfl rfl rfl rfl rfl) ?_
   refine wA (zc := [_, _]) (vs := [(0, .agg #[.int .i64 _, .int .i64 _])]) (cs := [_, _]) rfl rfl rfl rfl rfl rfl rfl fun b35 hb35 => ?_
   refine qL [_, _, _, _] rfl ?_
   refine wZ 1 K2 rfl rfl rfl (fun V => rdP V (i := 3) rfl) rfl rfl rfl rfl rfl rfl rfl rfl rfl (by omega) rfl (by rw [hln]; simp; omega) fun a4 h3a E3a ha4 => ?_
   refine qL [_, _, _, _] rfl ?_
   refine qA (qD (v := .slice _ _ _) rfl) ?_
   refine qB rfl ?_
   refine qA (qC (v := .int .i64 _) rfl) ?_
   refine qA (qS rfl (by omega)) ?_
   refine qA (qD (v := .int .i64 _) rfl) ?_
   refine ⟨(i + 1, a4), ⟨rfl, rfl, trivial⟩, rfl, rfl, (zT E_i E3a), fun h3 E3 => ⟨hil, by rw [fsN_succ, ← List.append_assoc, List.flatMap_append, List.flatMap_cons, List.flatMap_nil, List.append_nil, toldK hql]; exact ha4⟩, by first | omega | (dsimp only; omega), ?_⟩
   repeat (first | exact qW _ _ _ | refine wD (by decide) ?_ | refine qV rfl ?_ | refine wE rfl ?_)
  ·skip
   have hie : i = cntK m q := by have := geI hi; omega
   subst hie
   refine wV ?_
   refine qB rfl ?_
   refine qA (qC (v := .int .i64 _) rfl) ?_
   refine qA (qS rfl (by omega)) ?_
   refine qA (qD (v := .int .i64 _) rfl) ?_
   refine ⟨(q + 1, a2), ⟨intE (by omega), rfl, trivial⟩, rfl, rfl, (zT E_q E_i), fun h3 E3 => ⟨hql, K2⟩, by first | omega | (dsimp only; omega), ?_⟩
   repeat (first | exact qW _ _ _ | refine wD (by decide) ?_ | refine qV rfl ?_ | refine wE rfl ?_)
 ·skip
  have hqe : q = 4 := by have := of_decide_eq_false hq; omega
  subst hqe
  rw [fsK4] at J2
  refine wV ?_
  refine qE ?_
  refine qB rfl ?_
  refine qA (qC (v := .slice _ _ _) rfl) ?_
  refine qA (qD (v := .slice _ _ _) rfl) ?_
  refine qZ ?_
  refine qP (vs := [_]) Tryz.results49 ⟨qM rfl rfl, trivial⟩ fun V => ?_
  exact ⟨(zT E_q (qX V)), AccP.row (i := 1) J2 (by omega) (fun x _ => toldM x) V rfl⟩
theorem FaultsR_ok (m : MachP) (M : MOK m) (AB AQ AL AW : Option Addr) (cB cQ cL cW : Nat) (h : AH) (RM : MachR h AB AQ AL AW m) :
  FnT Tryz.prog 37 #[machV AB AQ AL AW cB cQ cL cW m] h (fun v h' => ∃ L, v = .tuple #[L, .int .i64 0] ∧ SlR h' 2 toldC (faultsM m) L) := by
 refine wM Tryz.func37 rfl Tryz.ntmps37 rfl ?_
 refine qE ?_
 refine qB rfl ?_
 refine zG (v := .agg #[.int .i64 _, .int .i64 _, .int .i64 _, .int .i64 _, .int .i64 _, .slice _ _ _, .slice _ _ _, .slice _ _ _, .slice _ _ _]) (cs := [_, _, _, _, _, _, _, _, _]) rfl rfl fun b1 hb1 => ?_
 refine qL [_] rfl ?_
 refine qA (qD (v := .slice _ _ _) rfl) ?_
 refine qA (qD (v := .int .i64 _) rfl) ?_
 refine qE ?_
 refine qE ?_
 refine qB rfl ?_
 refine qY 0 (vs := [.int .i64 _, .int .i64 _, .int .i64 _, .int .i64 _, .int .i64 _, .slice _ _ _, .slice _ _ _, .slice _ _ _, .slice _ _ _]) rfl rfl rfl rfl rfl ?_
 refine wJ (caps := []) (vs := [.agg #[.int .i64 _, .int .i64 _, .int .i64 _, .int .i64 _, .int .i64 _, .slice _ _ _, .slice _ _ _, .slice _ _ _, .slice _ _ _]]) rfl rfl rfl (CheckR_ok m M AB AQ AL AW cB cQ cL cW h (RM.ext (Ext.refl _))) ?_
 rintro _ h3 E3 rfl
 refine qA (qD (v := .int .i64 _) rfl) ?_
 refine qE ?_
 refine qB rfl ?_
 refine qA (qC (v := .int .i64 _) rfl) ?_
 refine qA (qN (v := .bool _) rfl) ?_
 refine zJ rfl (rfl) ?_
 refine qR ?_
 refine qE ?_
 refine qB rfl ?_
 refine qY 0 (vs := [.int .i64 _, .int .i64 _, .int .i64 _, .int .i64 _, .int .i64 _, .slice _ _ _, .slice _ _ _, .slice _ _ _, .slice _ _ _]) rfl rfl rfl rfl rfl ?_
 refine wJ (caps := []) (vs := [.agg #[.int .i64 _, .int .i64 _, .int .i64 _, .int .i64 _, .int .i64 _, .slice _ _ _, .slice _ _ _, .slice _ _ _, .slice _ _ _]]) rfl rfl rfl (faultsR_ok m M AB AQ AL AW cB cQ cL cW h3) ?_
 rintro _ h4 E4 ⟨A4, c4, rfl, S4⟩
 refine qA (qD (v := .slice _ _ _) rfl) ?_
 refine qA (qD (v := .int .i64 _) rfl) ?_
 refine qZ ?_
 refine qP (vs := [_, _]) Tryz.results37 ⟨qM rfl rfl, qM rfl rfl, trivial⟩ fun V => ?_
 exact ⟨(zT (zT E3 E4) (qX V)), _, rfl, A4, c4, rfl, S4.ext (qX V)⟩
end
end Go.Proofs.YthphpbdmbmiaiaaGreat
namespace Go.Rd
open Go Go.HL Go.Wx
variable [Lvl]
structure Mut (m m' : MachP) : Prop where
 lv : m'.levers = m.levers
 op : m'.opn = m.opn
 tv : m'.travel = m.travel
 bt : m'.buttons = m.buttons
 p1 : ∀ p ∈ m'.pins, p ∈ m.pins
 p2 : ∀ p ∈ m.pins, p.lag = m.travel ∨ p ∈ m'.pins
 l1 : ∀ l ∈ m'.links, l ∈ m.links
 l2 : ∀ l ∈ m.links, l.lag = m.travel ∨ l ∈ m'.links
theorem mut_turn {m m' : MachP} {a : HandP} (X : Mut m m') (F : Fit m a) (F' : Fit m' a) (td : 0 ≤ m.travel) {r : Int} (hr : 0 ≤ r) : turnF m' a m.travel r = turnF m a m.travel r := by
 have c := turned_clo F td
 have c' := turned_clo F' td
 refine Int.le_antisymm ?_ ?_
 ·exact turned_least F' (f := turnF m a m.travel) ⟨c.zero, fun b hb => by rw [X.bt]; exact c.press b hb, fun l hl ha => c.link l (X.l1 l hl) ha⟩ r hr
 ·refine turned_least F (f := turnF m' a m.travel) ⟨c'.zero, fun b hb => by rw [← X.bt]; exact c'.press b hb, fun l hl ha => ?_⟩ r hr
  rcases X.l2 l hl with e | h
  ·have h1 := (turnF_bd F' td l.frm).2
   have h2 := (turnF_bd F' td l.to).1
   rw [e]
   omega
  ·exact c'.link l h ha
theorem mut_lift {m m' : MachP} {a : HandP} (X : Mut m m') (F : Fit m a) (F' : Fit m' a) (td : 0 ≤ m.travel) (hp : ∀ p ∈ m.pins, 0 ≤ p.rod ∧ 0 ≤ p.lever) {v : Int} (h0 : 0 ≤ v) (hv : v < m.levers) : liftF m' a m.travel v = liftF m a m.travel v := by
 have i1 := liftF_iff m a m.travel h0 hv (fun p h => (hp p h).2)
 have i2 := liftF_iff m' a m.travel h0 (by rw [X.lv]; exact hv) (fun p h => (hp p (X.p1 p h)).2)
 refine Int.le_antisymm ?_ ?_
 ·have k := (i1 (liftF m a m.travel v)).1 (Int.le_refl _)
  refine (i2 _).2 ⟨k.1, fun p h e => ?_⟩
  rw [mut_turn X F F' td (hp p (X.p1 p h)).1]
  exact k.2 p (X.p1 p h) e
 ·have k := (i2 (liftF m' a m.travel v)).1 (Int.le_refl _)
  refine (i1 _).2 ⟨k.1, fun p h e => ?_⟩
  rcases X.p2 p h with e2 | h2
  ·have h1 := (turnF_bd F td p.rod).2
   rw [e2]
   omega
  ·rw [← mut_turn X F F' td (hp p h).1]
   exact k.2 p h2 e
theorem mut_sounds {m m' : MachP} {a : HandP} (X : Mut m m') (F : Fit m a) (F' : Fit m' a) (td : 0 ≤ m.travel) (hp : ∀ p ∈ m.pins, 0 ≤ p.rod ∧ 0 ≤ p.lever) : soundsM m' a m.travel = soundsM m a m.travel := by
 apply Nat.eq_of_testBit_eq
 intro i
 unfold soundsM
 rw [maskOf_bit, maskOf_bit, X.lv]
 by_cases hi : i < m.levers.toNat
 ·have e := mut_lift X F F' td hp (v := (i : Int)) (by omega) (by omega)
  unfold liftF at e
  rw [Int.toNat_natCast] at e
  rw [e, X.op]
 ·simp [hi]
def keepF {α : Type} (I : Nat → Bool) : Nat → List α → List α
 | _, [] => []
 | k, x :: xs => if I k then keepF I (k + 1) xs else x :: keepF I (k + 1) xs
theorem keepF_congr {α : Type} {I J : Nat → Bool} : ∀ {k : Nat} {xs : List α}, (∀ j, k ≤ j → I j = J j) → keepF I k xs = keepF J k xs
 | _, [], _ => rfl
 | k, x :: xs, h => by
  rw [keepF, keepF, h k (Nat.le_refl _), keepF_congr (k := k + 1) (xs := xs) fun j hj => h j (by omega)]
theorem keepF_erase {α : Type} {I : Nat → Bool} : ∀ (i k : Nat) (xs : List α), (∀ j, k ≤ j → j ≤ k + i → I j = false) → (keepF I k xs).eraseIdx i = keepF (fun j => j == k + i || I j) k xs
 | _, _, [], _ => by simp [keepF]
 | 0, k, x :: xs, h => by
  rw [keepF, keepF, h k (Nat.le_refl _) (by omega)]
  simp only [Nat.add_zero, BEq.rfl, Bool.true_or, if_true, Bool.false_eq_true, if_false]
  rw [List.eraseIdx_cons_zero]
  exact keepF_congr fun j hj => by
   have : (j == k) = false := by simp; omega
   rw [this, Bool.false_or]
 | i + 1, k, x :: xs, h => by
  have e : (k == k + (i + 1)) = false := by simp
  rw [keepF, keepF, h k (Nat.le_refl _) (by omega), e]
  simp only [Bool.false_or, Bool.false_eq_true, if_false]
  rw [List.eraseIdx_cons_succ, keepF_erase i (k + 1) xs (fun j h1 h2 => h j (by omega) (by omega)), show k + 1 + i = k + (i + 1) by omega]
theorem keepF_mem {α : Type} {I : Nat → Bool} {p : α} : ∀ {k : Nat} {xs : List α}, p ∈ keepF I k xs ↔ ∃ j, xs[j]? = some p ∧ I (k + j) = false
 | _, [] => by simp [keepF]
 | k, x :: xs => by
  have ih := keepF_mem (I := I) (p := p) (k := k + 1) (xs := xs)
  rw [keepF]
  constructor
  ·intro h
   by_cases hI : I k = true
   ·rw [if_pos hI, ih] at h
    obtain ⟨j, h1, h2⟩ := h
    exact ⟨j + 1, by simpa using h1, by rw [← h2]; congr 1; omega⟩
   ·rw [if_neg hI, List.mem_cons] at h
    rcases h with rfl | h
    ·exact ⟨0, rfl, by simpa using hI⟩
    ·obtain ⟨j, h1, h2⟩ := ih.1 h
     exact ⟨j + 1, by simpa using h1, by rw [← h2]; congr 1; omega⟩
  ·rintro ⟨j, h1, h2⟩
   cases j with
   | zero =>
    have e : x = p := by simpa using h1
    rw [if_neg (by rw [show k = k + 0 from rfl, h2]; decide)]
    exact List.mem_cons.2 (.inl e.symm)
   | succ j =>
    have hm : p ∈ keepF I (k + 1) xs := ih.2 ⟨j, by simpa using h1, by rw [← h2]; congr 1; omega⟩
    by_cases hI : I k = true
    ·rw [if_pos hI]; exact hm
    ·rw [if_neg hI]; exact List.mem_cons.2 (.inr hm)
def isPin (j : Nat) : FaultP → Bool
 | .pin i => j == i
 | _ => false
def isLink (j : Nat) : FaultP → Bool
 | .link i => j == i
 | _ => false
def rmF (o : MachP) : FaultP → MachP
 | .pin i => { o with pins := o.pins.eraseIdx i }
 | .link i => { o with links := o.links.eraseIdx i }
 | _ => o
def ownR (m : MachP) (fs : List FaultP) : MachP := fs.foldr (fun f o => rmF o f) m
def AscF (f g : FaultP) : Prop := (∀ i j, f = .pin i → g = .pin j → i < j) ∧ (∀ i j, f = .link i → g = .link j → i < j)
theorem own_pins (m : MachP) : ∀ {fs : List FaultP}, fs.Pairwise AscF → (ownR m fs).pins = keepF (fun j => fs.any (isPin j)) 0 m.pins ∧ (ownR m fs).links = keepF (fun j => fs.any (isLink j)) 0 m.links
 | [], _ => by
  have key : ∀ {α : Type} (k : Nat) (xs : List α), keepF (fun _ => false) k xs = xs := by
   intro α k xs
   induction xs generalizing k with
   | nil => rfl
   | cons x xs ih => rw [keepF, ih]; rfl
  exact ⟨(key 0 m.pins).symm, (key 0 m.links).symm⟩
 | f :: fs, h => by
  rw [List.pairwise_cons] at h
  obtain ⟨e1, e2⟩ := own_pins m h.2
  have eo : ownR m (f :: fs) = rmF (ownR m fs) f := rfl
  rw [eo]
  cases f with
  | shut i => exact ⟨by simpa [rmF, isPin] using e1, by simpa [rmF, isLink] using e2⟩
  | opn i => exact ⟨by simpa [rmF, isPin] using e1, by simpa [rmF, isLink] using e2⟩
  | pin i =>
   refine ⟨?_, by simpa [rmF, isLink] using e2⟩
   show (ownR m fs).pins.eraseIdx i = _
   rw [e1, keepF_erase i 0 m.pins (fun j _ hj => by
    rw [List.any_eq_false]
    intro g hg hgp
    cases g with
    | pin q =>
     have e : j = q := by simpa [isPin] using hgp
     have := (h.1 _ hg).1 i q rfl rfl
     omega
    | _ => simp [isPin] at hgp)]
   simp [isPin]
  | link i =>
   refine ⟨by simpa [rmF, isPin] using e1, ?_⟩
   show (ownR m fs).links.eraseIdx i = _
   rw [e2, keepF_erase i 0 m.links (fun j _ hj => by
    rw [List.any_eq_false]
    intro g hg hgp
    cases g with
    | link q =>
     have e : j = q := by simpa [isLink] using hgp
     have := (h.1 _ hg).2 i q rfl rfl
     omega
    | _ => simp [isLink] at hgp)]
   simp [isLink]
theorem own_same (m : MachP) : ∀ fs : List FaultP, (ownR m fs).rods = m.rods ∧ (ownR m fs).levers = m.levers ∧ (ownR m fs).regs = m.regs ∧ (ownR m fs).travel = m.travel ∧ (ownR m fs).opn = m.opn ∧ (ownR m fs).buttons = m.buttons ∧ (ownR m fs).weights = m.weights
 | [] => ⟨rfl, rfl, rfl, rfl, rfl, rfl, rfl⟩
 | f :: fs => by
  have ih := own_same m fs
  have eo : ownR m (f :: fs) = rmF (ownR m fs) f := rfl
  rw [eo]
  cases f <;> exact ih
theorem lagP_get (ps : List PinP) (i : Nat) (t : Int) (j : Nat) : (lagP ps i t)[j]? = (ps[j]?).map fun p => if j == i then ⟨p.rod, p.lever, t⟩ else p := by
 unfold lagP
 split
 ·rename_i p hp
  rw [List.getElem?_set]
  by_cases h : i = j
  ·subst h
   have hl := (List.getElem?_eq_some_iff.1 hp).1
   rw [if_pos rfl, if_pos hl, hp]
   simp
  ·have h' : (j == i) = false := by simp; omega
   rw [if_neg h, h']
   simp
 ·rename_i hp
  by_cases h : j = i
  ·subst h; rw [hp]; rfl
  ·have h' : (j == i) = false := by simp; omega
   rw [h']
   simp
theorem lagL_get (ls : List LinkP) (i : Nat) (t : Int) (j : Nat) : (lagL ls i t)[j]? = (ls[j]?).map fun x => if j == i then ⟨x.frm, x.to, x.reg, t⟩ else x := by
 unfold lagL
 split
 ·rename_i p hp
  rw [List.getElem?_set]
  by_cases h : i = j
  ·subst h
   have hl := (List.getElem?_eq_some_iff.1 hp).1
   rw [if_pos rfl, if_pos hl, hp]
   simp
  ·have h' : (j == i) = false := by simp; omega
   rw [if_neg h, h']
   simp
 ·rename_i hp
  by_cases h : j = i
  ·subst h; rw [hp]; rfl
  ·have h' : (j == i) = false := by simp; omega
   rw [h']
   simp
theorem brk_get {t : Int} : ∀ (fs : List FaultP) (b : BrkP) (j : Nat), (fs.foldl (brkS t) b).pins[j]? = (b.pins[j]?).map (fun p => if fs.any (isPin j) then ⟨p.rod, p.lever, t⟩ else p) ∧ (fs.foldl (brkS t) b).links[j]? = (b.links[j]?).map (fun x => if fs.any (isLink j) then ⟨x.frm, x.to, x.reg, t⟩ else x)
 | [], b, j => by simp
 | f :: fs, b, j => by
  obtain ⟨e1, e2⟩ := brk_get (t := t) fs (brkS t b f) j
  rw [List.foldl_cons, e1, e2]
  cases f with
  | shut i => simp [brkS, isPin, isLink]
  | opn i => simp [brkS, isPin, isLink]
  | pin i =>
   refine ⟨?_, by simp [brkS, isLink]⟩
   show ((lagP b.pins i t)[j]?).map _ = _
   rw [lagP_get, Option.map_map]
   congr 1
   funext p
   simp only [Function.comp, List.any_cons, isPin]
   by_cases h : j = i
   ·subst h; simp
   ·simp [h]
  | link i =>
   refine ⟨by simp [brkS, isPin], ?_⟩
   show ((lagL b.links i t)[j]?).map _ = _
   rw [lagL_get, Option.map_map]
   congr 1
   funext p
   simp only [Function.comp, List.any_cons, isLink]
   by_cases h : j = i
   ·subst h; simp
   ·simp [h]
theorem own_mut {m : MachP} {fs : List FaultP} (h : fs.Pairwise AscF) : Mut (brkM m fs) (ownR m fs) := by
 obtain ⟨e1, e2⟩ := own_pins m h
 obtain ⟨_, s2, _, s4, s5, s6, _⟩ := own_same m fs
 have g := fun j => brk_get (t := m.travel) fs ⟨m.pins, m.links, 0, 0⟩ j
 refine ⟨s2, s5, s4, s6, fun p hp => ?_, fun p hp => ?_, fun l hl => ?_, fun l hl => ?_⟩
 ·rw [e1, keepF_mem] at hp
  obtain ⟨j, h1, h2⟩ := hp
  rw [Nat.zero_add] at h2
  refine List.mem_of_getElem? (i := j) ?_
  refine ((g j).1).trans ?_
  show (m.pins[j]?).map _ = _
  rw [h1, h2]; rfl
 ·obtain ⟨j, hj⟩ := List.getElem?_of_mem hp
  have e := ((g j).1).symm.trans hj
  rw [show (⟨m.pins, m.links, 0, 0⟩ : BrkP).pins = m.pins from rfl] at e
  rw [Option.map_eq_some_iff] at e
  obtain ⟨q, h1, h2⟩ := e
  by_cases hI : fs.any (isPin j) = true
  ·rw [if_pos hI] at h2; subst h2; exact .inl rfl
  ·rw [if_neg hI] at h2; subst h2
   exact .inr (by rw [e1, keepF_mem]; exact ⟨j, h1, by rw [Nat.zero_add]; simpa using hI⟩)
 ·rw [e2, keepF_mem] at hl
  obtain ⟨j, h1, h2⟩ := hl
  rw [Nat.zero_add] at h2
  refine List.mem_of_getElem? (i := j) ?_
  refine ((g j).2).trans ?_
  show (m.links[j]?).map _ = _
  rw [h1, h2]; rfl
 ·obtain ⟨j, hj⟩ := List.getElem?_of_mem hl
  have e := ((g j).2).symm.trans hj
  rw [show (⟨m.pins, m.links, 0, 0⟩ : BrkP).links = m.links from rfl] at e
  rw [Option.map_eq_some_iff] at e
  obtain ⟨q, h1, h2⟩ := e
  by_cases hI : fs.any (isLink j) = true
  ·rw [if_pos hI] at h2; subst h2; exact .inl rfl
  ·rw [if_neg hI] at h2; subst h2
   exact .inr (by rw [e2, keepF_mem]; exact ⟨j, h1, by rw [Nat.zero_add]; simpa using hI⟩)
theorem own_mem {m : MachP} {fs : List FaultP} : (∀ p ∈ (ownR m fs).pins, p ∈ m.pins) ∧ (∀ l ∈ (ownR m fs).links, l ∈ m.links) ∧ (ownR m fs).pins.length ≤ m.pins.length ∧ (ownR m fs).links.length ≤ m.links.length := by
 induction fs with
 | nil => exact ⟨fun _ h => h, fun _ h => h, Nat.le_refl _, Nat.le_refl _⟩
 | cons f fs ih =>
  have eo : ownR m (f :: fs) = rmF (ownR m fs) f := rfl
  rw [eo]
  obtain ⟨i1, i2, i3, i4⟩ := ih
  cases f with
  | shut i => exact ⟨i1, i2, i3, i4⟩
  | opn i => exact ⟨i1, i2, i3, i4⟩
  | pin i => exact ⟨fun p h => i1 p (List.mem_of_mem_eraseIdx h), i2, Nat.le_trans (List.length_eraseIdx_le _ _) i3, i4⟩
  | link i => exact ⟨i1, fun p h => i2 p (List.mem_of_mem_eraseIdx h), i3, Nat.le_trans (List.length_eraseIdx_le _ _) i4⟩
theorem own_mok {m : MachP} (M : MOK m) (fs : List FaultP) : MOK (ownR m fs) := by
 obtain ⟨s1, s2, s3, s4, s5, s6, s7⟩ := own_same m fs
 obtain ⟨i1, i2, i3, i4⟩ := own_mem (m := m) (fs := fs)
 refine ⟨by rw [s1]; exact M.rods, by rw [s2]; exact M.levers, by rw [s3]; exact M.regs, by rw [s4]; exact M.travel, by rw [s5, s4]; exact M.opn, by rw [s6]; exact M.bl, by rw [s6, s1]; exact M.btn, Nat.le_trans i3 M.pl, ?_, Nat.le_trans i4 M.ll, ?_, by rw [s7, s2]; exact M.wl, by rw [s7]; exact M.wt⟩
 ·intro p hp; rw [s1, s2, s4]; exact M.pin p (i1 p hp)
 ·intro l hl; rw [s1, s3, s4]; exact M.link l (i2 l hl)
theorem own_hok {m : MachP} {a : HandP} (H : HOK m a) (fs : List FaultP) : HOK (ownR m fs) a := by
 obtain ⟨_, _, s3, _, _, s6, _⟩ := own_same m fs
 exact ⟨by rw [s6]; exact H.b, by rw [s3]; exact H.o⟩
theorem own_sounds {m : MachP} {a : HandP} (M : MOK m) (H : HOK m a) {fs : List FaultP} (h : fs.Pairwise AscF) : soundsM (ownR m fs) a m.travel = soundsM (brkM m fs) a m.travel := by
 have tr := M.travel
 have M2 := brk_mok M fs
 refine mut_sounds (m := brkM m fs) (own_mut h) (fit_of M2 (brk_hok H fs)) (fit_of (own_mok M fs) (own_hok H fs)) (by show 0 ≤ m.travel; omega) fun p hp => ?_
 have := M2.pin p hp
 exact ⟨this.1.1, this.2.1.1⟩
theorem keepF_lt {α : Type} {I : Nat → Bool} : ∀ (i k : Nat) (xs : List α), i < xs.length → (∀ j, k ≤ j → j ≤ k + i → I j = false) → i < (keepF I k xs).length
 | _, _, [], h, _ => by simp at h
 | 0, k, x :: xs, _, h => by
  rw [keepF, h k (Nat.le_refl _) (by omega)]
  simp
 | i + 1, k, x :: xs, hl, h => by
  have ih := keepF_lt i (k + 1) xs (by simpa using hl) (fun j h1 h2 => h j (by omega) (by omega))
  rw [keepF, h k (Nat.le_refl _) (by omega)]
  simpa using ih
theorem own_pin_lt {m : MachP} {fs : List FaultP} {i : Nat} (h : (FaultP.pin i :: fs).Pairwise AscF) (hi : i < m.pins.length) : i < (ownR m fs).pins.length := by
 rw [List.pairwise_cons] at h
 rw [(own_pins m h.2).1]
 refine keepF_lt i 0 m.pins hi fun j _ hj => ?_
 rw [List.any_eq_false]
 intro g hg hgp
 cases g with
 | pin q =>
  have e : j = q := by simpa [isPin] using hgp
  have := (h.1 _ hg).1 i q rfl rfl
  omega
 | _ => simp [isPin] at hgp
theorem own_link_lt {m : MachP} {fs : List FaultP} {i : Nat} (h : (FaultP.link i :: fs).Pairwise AscF) (hi : i < m.links.length) : i < (ownR m fs).links.length := by
 rw [List.pairwise_cons] at h
 rw [(own_pins m h.2).2]
 refine keepF_lt i 0 m.links hi fun j _ hj => ?_
 rw [List.any_eq_false]
 intro g hg hgp
 cases g with
 | link q =>
  have e : j = q := by simpa [isLink] using hgp
  have := (h.1 _ hg).2 i q rfl rfl
  omega
 | _ => simp [isLink] at hgp
def ownK (m : MachP) (fs : List FaultP) (k : Nat) : MachP := ownR m (fs.drop (fs.length - k))
theorem ownK_zero (m : MachP) (fs : List FaultP) : ownK m fs 0 = m := by
 unfold ownK
 rw [Nat.sub_zero, List.drop_length]
 rfl
theorem drop_at {fs : List FaultP} {k : Nat} (hk : k < fs.length) : fs.drop (fs.length - (k + 1)) = fs[fs.length - 1 - k]'(by omega) :: fs.drop (fs.length - k) := by
 rw [List.drop_eq_getElem_cons (show fs.length - (k + 1) < fs.length by omega)]
 have e : fs.length - (k + 1) = fs.length - 1 - k := by omega
 congr 1
 ·congr 1
 ·congr 1; omega
theorem ownK_succ {m : MachP} {fs : List FaultP} {k : Nat} (hk : k < fs.length) : ownK m fs (k + 1) = rmF (ownK m fs k) (fs[fs.length - 1 - k]'(by omega)) := by
 unfold ownK
 rw [drop_at hk]
 rfl
theorem ownK_all (m : MachP) (fs : List FaultP) : ownK m fs fs.length = ownR m fs := by
 unfold ownK
 rw [Nat.sub_self]
 rfl
theorem asc_drop {fs : List FaultP} (h : fs.Pairwise AscF) (k : Nat) : (fs.drop k).Pairwise AscF := h.sublist (List.drop_sublist k fs)
theorem with_list {x i : Nat} (hi : i < 6) (hb : x.testBit i = false) : ((listN x 6).filter fun z => decide (z < (i : Int))) ++ [(i : Int)] ++ (listN x 6).filter (fun z => decide (z > (i : Int))) = listN (x ||| 2 ^ i) 6 := by
 refine asc_ext ?_ (listN_asc _ _) fun z => ?_
 ·rw [List.append_assoc, List.pairwise_append, List.pairwise_append]
  refine ⟨(listN_asc x 6).sublist List.filter_sublist, ⟨by simp, (listN_asc x 6).sublist List.filter_sublist, fun a ha b hb => ?_⟩, fun a ha b hb => ?_⟩
  ·simp at ha hb; omega
  ·rw [List.mem_filter] at ha
   have h1 := of_decide_eq_true ha.2
   rcases List.mem_append.1 hb with hb | hb
   ·simp at hb; omega
   ·rw [List.mem_filter] at hb
    have h2 := of_decide_eq_true hb.2
    omega
 ·rw [List.mem_append, List.mem_append, List.mem_filter, List.mem_filter, List.mem_singleton, listN_bits, listN_bits]
  constructor
  ·rintro ((⟨⟨j, rfl, h1, h2⟩, h3⟩ | rfl) | ⟨⟨j, rfl, h1, h2⟩, h3⟩)
   ·exact ⟨j, rfl, h1, by rw [Nat.testBit_or, h2]; rfl⟩
   ·exact ⟨i, rfl, hi, by rw [Nat.testBit_or, Nat.testBit_two_pow_self]; simp⟩
   ·exact ⟨j, rfl, h1, by rw [Nat.testBit_or, h2]; rfl⟩
  ·rintro ⟨j, rfl, h1, h2⟩
   rw [Nat.testBit_or] at h2
   by_cases e : j = i
   ·exact .inl (.inr (by rw [e]))
   ·rw [Nat.testBit_two_pow_of_ne (fun h => e h.symm), Bool.or_false] at h2
    rcases Nat.lt_or_gt_of_ne e with h | h
    ·exact .inl (.inl ⟨⟨j, rfl, h1, h2⟩, decide_eq_true (by omega)⟩)
    ·exact .inr ⟨⟨j, rfl, h1, h2⟩, decide_eq_true (by omega)⟩
theorem with_had {x i : Nat} (hb : x.testBit i = true) : x ||| 2 ^ i = x := by
 apply Nat.eq_of_testBit_eq
 intro j
 rw [Nat.testBit_or]
 by_cases e : j = i
 ·subst e; rw [hb]; rfl
 ·rw [Nat.testBit_two_pow_of_ne (fun h => e h.symm), Bool.or_false]
theorem has_bit {x i : Nat} (hi : i < 6) : (listN x 6).contains (i : Int) = x.testBit i := by
 rw [Bool.eq_iff_iff, List.contains_iff_mem, listN_bits]
 constructor
 ·rintro ⟨j, e, _, h⟩
  have : i = j := by omega
  rw [this]; exact h
 ·exact fun h => ⟨i, rfl, hi, h⟩
theorem mask_bit {d j : Nat} (hd : d < 2 ^ 64) : (2 ^ 64 - 1 - d).testBit j = (decide (j < 64) && !d.testBit j) := by
 rw [show 2 ^ 64 - 1 - d = 2 ^ 64 - (d + 1) by omega, Nat.testBit_two_pow_sub_succ hd]
theorem without_list {x d i : Nat} (hd : d < 2 ^ 6) (hi : i < 6) : (listN (x &&& (2 ^ 64 - 1 - d)) 6).filter (fun z => z != (i : Int)) = listN (x &&& (2 ^ 64 - 1 - (d ||| 2 ^ i))) 6 := by
 have d64 : d < 2 ^ 64 := by omega
 have h2 : 2 ^ i < 2 ^ 6 := Nat.pow_lt_pow_right (by omega) hi
 have d65 : d ||| 2 ^ i < 2 ^ 64 := by have := Nat.or_lt_two_pow hd h2; omega
 refine asc_ext ((listN_asc _ 6).sublist List.filter_sublist) (listN_asc _ _) fun z => ?_
 rw [List.mem_filter, listN_bits, listN_bits]
 constructor
 ·rintro ⟨⟨j, rfl, h1, h2⟩, h3⟩
  have hne : j ≠ i := fun e => by subst e; simp at h3
  refine ⟨j, rfl, h1, ?_⟩
  rw [Nat.testBit_and, mask_bit d64] at h2
  rw [Nat.testBit_and, mask_bit d65, Nat.testBit_or, Nat.testBit_two_pow_of_ne (fun h => hne h.symm), Bool.or_false]
  exact h2
 ·rintro ⟨j, rfl, h1, h2⟩
  rw [Nat.testBit_and, mask_bit d65, Nat.testBit_or] at h2
  by_cases e : j = i
  ·subst e
   rw [Nat.testBit_two_pow_self] at h2
   simp at h2
  ·rw [Nat.testBit_two_pow_of_ne (fun h => e h.symm), Bool.or_false] at h2
   exact ⟨⟨j, rfl, h1, by rw [Nat.testBit_and, mask_bit d64]; exact h2⟩, by simp; omega⟩
end Go.Rd
namespace Go.Proofs.YthphpbdmbmiaiaaGreat
open Go Go.HL Go.Proofs Go.Wx Go.Rd
section
variable [Lvl]
set_option maxRecDepth 100000
theorem fsN_get {c : Nat → FaultP} {k j : Nat} {f : FaultP} (h : (fsN c k)[j]? = some f) : j < k ∧ f = c j := by
 unfold fsN at h
 rw [List.getElem?_map] at h
 by_cases hj : j < k
 ·rw [List.getElem?_range hj] at h
  simp at h
  exact ⟨hj, h.symm⟩
 ·rw [List.getElem?_eq_none (by simp; omega)] at h
  simp at h
theorem fault_ix {m : MachP} {x : Nat} {f : FaultP} (h : (faultsM m)[x]? = some f) : (∃ i, f = .shut i) ∨ (∃ i, f = .opn i) ∨ (∃ i, f = .pin i ∧ x = 2 * m.levers.toNat + i) ∨ (∃ i, f = .link i ∧ x = 2 * m.levers.toNat + m.pins.length + i) := by
 have l1 : (fs1 m).length = m.levers.toNat := by rw [fs1, fsN_len]
 have l2 : (fs2 m).length = 2 * m.levers.toNat := by rw [fs2, List.length_append, l1, fsN_len]; omega
 have l3 : (fs3 m).length = 2 * m.levers.toNat + m.pins.length := by rw [fs3, List.length_append, l2, fsN_len]
 rw [faultsM, List.getElem?_append] at h
 split at h
 ·rw [fs3, List.getElem?_append] at h
  split at h
  ·rw [fs2, List.getElem?_append] at h
   split at h
   ·exact .inl ⟨x, (fsN_get h).2⟩
   ·exact .inr (.inl ⟨_, (fsN_get h).2⟩)
  ·exact .inr (.inr (.inl ⟨_, (fsN_get h).2, by omega⟩))
 ·exact .inr (.inr (.inr ⟨_, (fsN_get h).2, by omega⟩))
theorem pick_asc {m : MachP} {l : List Int} (S : SetOK l (faultsM m).length) : (pickL m l).Pairwise AscF := by
 unfold pickL
 rw [List.pairwise_map]
 refine S.asc.imp_of_mem fun {a b} ha hb hab => ?_
 obtain ⟨a0, a1⟩ := S.mem a ha
 obtain ⟨b0, b1⟩ := S.mem b hb
 have ea : (faultsM m)[a.toNat]? = some ((faultsM m).getD a.toNat (.shut 0)) := by rw [List.getD_eq_getElem?_getD, List.getElem?_eq_getElem (by omega)]; rfl
 have eb : (faultsM m)[b.toNat]? = some ((faultsM m).getD b.toNat (.shut 0)) := by rw [List.getD_eq_getElem?_getD, List.getElem?_eq_getElem (by omega)]; rfl
 generalize (faultsM m).getD a.toNat (.shut 0) = f at ea ⊢
 generalize (faultsM m).getD b.toNat (.shut 0) = g at eb ⊢
 have fa := fault_ix ea
 have fb := fault_ix eb
 refine ⟨fun i j e1 e2 => ?_, fun i j e1 e2 => ?_⟩
 ·subst e1 e2
  simp at fa fb
  omega
 ·subst e1 e2
  simp at fa fb
  omega
theorem pick_at {m : MachP} {l : List Int} (S : SetOK l (faultsM m).length) {k : Nat} (hk : k < l.length) (hp : k < (pickL m l).length) : ∃ h : l[k].toNat < (faultsM m).length, (pickL m l)[k] = (faultsM m)[l[k].toNat] := by
 obtain ⟨a0, a1⟩ := S.mem _ (List.getElem_mem hk)
 have h : l[k].toNat < (faultsM m).length := by omega
 exact ⟨h, by simp [pickL, List.getD_eq_getElem?_getD, List.getElem?_eq_getElem h]⟩
theorem slcE {A : Option Addr} {n n' c : Nat} (e : n = n') : Value.slice A n c = Value.slice A n' c := by rw [e]
theorem lenE {x y : Nat} (e : x = y) : (listN x 6).length = (listN y 6).length := by rw [e]
theorem rowE {h : AH} {A : Option Addr} {x y : Nat} (e : x = y) (R : Row h 1 intC A (listN x 6)) : Row h 1 intC A (listN y 6) := e ▸ R
set_option maxHeartbeats 8000000 in
theorem brokenR_ok (m : MachP) (M : MOK m) (l : List Int) (S : SetOK l (faultsM m).length) (a : HandP) (H : HOK m a) (AB AQ AL AW NA HA OA : Option Addr) (cB cQ cL cW cN cH cO : Nat) (hcQ : m.pins.length ≤ cQ) (hcL : m.links.length ≤ cL) (h : AH) (RM : MachR h AB AQ AL AW m) (RN : Row h 1 intC NA l) (RH : HandR h HA OA a) :
  FnT Tryz.prog 65 #[machV AB AQ AL AW cB cQ cL cW m, .slice NA l.length cN, handV HA OA cH cO a] h (fun v h' => SlR h' 1 intC (listN (soundsB m (pickL m l) a) 6) v) := by
 have mlv := M.levers
 have mpl := M.pl
 have mll := M.ll
 have mtr := M.travel
 have fln := faults_len m
 have hll : l.length ≤ (faultsM m).length := set_len S
 obtain ⟨fs, hfs⟩ : ∃ fs, fs = pickL m l := ⟨_, rfl⟩
 have hfl : fs.length = l.length := by rw [hfs, pickL, List.length_map]
 have hfo : ∀ f ∈ fs, FOK m f := by rw [hfs]; exact pickL_fok M S.mem
 have hfa : fs.Pairwise AscF := by rw [hfs]; exact pick_asc S
 have hfx : ∀ k (hk : k < l.length) (hp : k < fs.length), ∃ hx : l[k].toNat < (faultsM m).length, fs[k] = (faultsM m)[l[k].toNat] := fun k hk hp => by subst hfs; exact pick_at S hk hp
 have hls : ∀ x ∈ l, 0 ≤ x := fun x hx => (S.mem x hx).1
 rw [← hfs]
 refine wM Tryz.func65 rfl Tryz.ntmps65 rfl ?_
 refine qE ?_
 refine qB rfl ?_
 refine zG (v := .agg #[.int .i64 _, .int .i64 _, .int .i64 _, .int .i64 _, .int .i64 _, .slice _ _ _, .slice _ _ _, .slice _ _ _, .slice _ _ _]) (cs := [_, _, _, _, _, _, _, _, _]) rfl rfl fun b3 hb3 => ?_
 refine qL [_] rfl ?_
 refine zG (v := .agg #[.slice _ _ _, .slice _ _ _]) (cs := [_, _]) rfl rfl fun b5 hb5 => ?_
 refine qL [_, _] rfl ?_
 refine qA (qD (v := .slice _ _ _) rfl) ?_
 refine qE ?_
 refine qB rfl ?_
 refine qY 0 (vs := [.int .i64 _, .int .i64 _, .int .i64 _, .int .i64 _, .int .i64 _, .slice _ _ _, .slice _ _ _, .slice _ _ _, .slice _ _ _]) rfl rfl rfl rfl rfl ?_
 refine wJ (caps := []) (vs := [.agg #[.int .i64 _, .int .i64 _, .int .i64 _, .int .i64 _, .int .i64 _, .slice _ _ _, .slice _ _ _, .slice _ _ _, .slice _ _ _]]) rfl rfl rfl (faultsR_ok m M AB AQ AL AW cB cQ cL cW h) ?_
 rintro _ h1 E1 ⟨FA, cF, rfl, RF⟩
 refine qA (qD (v := .slice _ _ _) rfl) ?_
 refine qE ?_
 refine qB rfl ?_
 refine qY 0 (vs := [.int .i64 _, .int .i64 _, .int .i64 _, .int .i64 _, .int .i64 _, .slice _ _ _, .slice _ _ _, .slice _ _ _, .slice _ _ _]) rfl rfl rfl rfl rfl ?_
 refine zF (cs := [_, _, _, _, _, _, _, _, _]) rfl rfl fun b8 hb8 => ?_
 refine qL [_, _, _] rfl ?_
 refine wI 2 (v := .agg #[.int .i64 _, .int .i64 _, .int .i64 _, .int .i64 _, .int .i64 _, .slice _ _ _, .slice _ _ _, .slice _ _ _, .slice _ _ _]) (vs := [_, _, _, _, _, _, _, _, _]) (c' := [_, _, _, _, _, _, _, _, _]) rfl rfl rfl rfl rfl rfl rfl rfl rfl ?_
 refine qL [_, _, _] rfl ?_
 refine qE ?_
 refine qE ?_
 refine qB rfl ?_
 refine qA (qC (v := .slice _ _ _) rfl) ?_
 refine qA (wK rfl rfl) ?_
 refine qA (qS rfl (by omega)) ?_
 refine qA (qD (v := .int .i64 _) rfl) ?_
 refine qQ ?_
 refine zH [9, 10, 22, 23, 24, 25, 26, 27, 28, 29, 30, 31, 32, 33, 34, 35, 36, 37, 38, 39, 40, 41, 42, 43, 44, 45, 46] 3 (α := Nat × MachP × Option Addr × Nat × Option Addr × Nat) (fun ⟨k, o, AQ1, cQ1, AL1, cL1⟩ => [(9, .int .i64 ((l.length : Int) - 1 - k))]) (fun ⟨k, o, AQ1, cQ1, AL1, cL1⟩ L => L.set 2 (some (b8, .cells #[.int .i64 o.rods, .int .i64 o.levers, .int .i64 o.regs, .int .i64 o.travel, .int .i64 o.opn, .slice AB o.buttons.length cB, .slice AQ1 o.pins.length cQ1, .slice AL1 o.links.length cL1, .slice AW o.weights.length cW] 26 (0, 0)))) (fun ⟨k, o, AQ1, cQ1, AL1, cL1⟩ h_k => (k ≤ l.length ∧ o = ownK m fs k) ∧ Row h_k 3 pinC AQ1 o.pins ∧ Row h_k 4 linkC AL1 o.links ∧ o.pins.length ≤ cQ1 ∧ o.links.length ≤ cL1) (fun ⟨k, o, AQ1, cQ1, AL1, cL1⟩ => l.length - k) ((0, m, AQ, cQ, AL, cL)) ⟨intE (by omega), trivial⟩ (rfl) (⟨⟨Nat.zero_le _, (ownK_zero m fs).symm⟩, RM.q.ext E1, RM.l.ext E1, hcQ, hcL⟩) ?_
 rintro ⟨k, o, AQ1, cQ1, AL1, cL1⟩ T1 h_k E_k J_k
 refine qT [_, _, _] rfl ?_
 obtain ⟨⟨J1, J6⟩, J2, J3, J4, J5⟩ := J_k
 refine qE ?_
 refine qE ?_
 refine qB rfl ?_
 refine qA (qC (v := .int .i64 _) rfl) ?_
 refine qA (qN (v := .bool _) rfl) ?_
 refine qU rfl (fun hk => ?_) (fun hk => ?_)
 ·skip
  have hkl : k < l.length := by have := of_decide_eq_true hk; omega
  have hjx : l.length - 1 - k < l.length := by omega
  have hjf : fs.length - 1 - k < fs.length := by omega
  obtain ⟨hx, hfe⟩ := hfx (l.length - 1 - k) hjx (by omega)
  have hl0 := hls _ (List.getElem_mem hjx)
  have hsc := ownK_succ (m := m) (fs := fs) (k := k) (by omega)
  have hasc := asc_drop hfa (fs.length - (k + 1))
  rw [drop_at (fs := fs) (k := k) (by omega)] at hasc
  have hef : fs[fs.length - 1 - k] = (faultsM m)[l[l.length - 1 - k].toNat] := by rw [← hfe]; congr 1; omega
  have hok := hfo _ (List.getElem_mem hjf)
  rw [hef] at hsc hasc hok
  rw [← J6] at hsc
  obtain ⟨g, off, hA, hc⟩ := (RN.ext (zT E1 E_k)).at (by omega) hjx
  have hc : Cells h_k g (off + ((l.length : Int) - 1 - k).toNat * 1) (intC l[l.length - 1 - k]) := by rw [show ((l.length : Int) - 1 - k).toNat = l.length - 1 - k by omega]; exact hc
  obtain ⟨g2, off2, hA2, hc2⟩ := (RF.ext E_k).at (by omega) hx
  obtain ⟨F, hF⟩ : ∃ F, F = (faultsM m)[l[l.length - 1 - k].toNat] := ⟨_, rfl⟩
  rw [← hF] at hc2 hsc hasc hok
  refine qR ?_
  refine qE ?_
  refine qQ ?_
  refine qE ?_
  refine qB rfl ?_
  refine qA (qC (v := .slice _ _ _) rfl) ?_
  refine qA (qC (v := .slice _ _ _) rfl) ?_
  refine qA (qC (v := .int .i64 _) rfl) ?_
  refine qA (wG rfl hA rfl rfl rfl (by omega) (by omega)) ?_
  refine wS (v := .int .i64 _) rfl rfl ((hc) 0 _ rfl) ?_
  refine qA (wG (m := 2) rfl hA2 rfl rfl rfl (by omega) (by omega)) ?_
  rcases F with i | i | i | i
  ·skip
   refine zK rfl rfl rfl rfl (hc2) ?_
   refine zF (cs := [_, _]) rfl rfl fun b10 hb10 => ?_
   refine qL [_, _, _, _] rfl ?_
   refine wI 3 (v := .agg #[.int .i64 _, .int .i64 _]) (vs := [_, _]) (c' := [_, _]) rfl rfl rfl rfl rfl rfl rfl rfl rfl ?_
   refine qL [_, _, _, _] rfl ?_
   refine qE ?_
   refine qB rfl ?_
   refine qA (qF rfl rfl rfl rfl 0 rfl) ?_
   refine qJ 3 (v := .int .i64 _) rfl rfl rfl rfl ?_
   refine qQ ?_
   refine qE ?_
   refine qB rfl ?_
   refine qA (qN (v := .bool _) rfl) ?_
   refine qA (qD (v := .bool _) rfl) ?_
   refine zJ rfl (rfl) ?_
   refine qE ?_
   refine qB rfl ?_
   refine qA (qN (v := .bool _) rfl) ?_
   refine qA (qD (v := .bool _) rfl) ?_
   refine zJ rfl (rfl) ?_
   refine qR ?_
   refine qB rfl ?_
   refine qA (qC (v := .int .i64 _) rfl) ?_
   refine qA (qS rfl (by omega)) ?_
   refine qA (qD (v := .int .i64 _) rfl) ?_
   refine ⟨(k + 1, o, AQ1, cQ1, AL1, cL1), ⟨intE (by omega), trivial⟩, rfl, rfl, E_k, fun h3 E3 => ⟨⟨by omega, hsc.symm⟩, (J2.ext (Ext.refl _)).ext E3, (J3.ext (Ext.refl _)).ext E3, J4, J5⟩, by first | omega | (dsimp only; omega), ?_⟩
   repeat (first | exact qW _ _ _ | refine wD (by decide) ?_ | refine qV rfl ?_ | refine wE rfl ?_)
  ·skip
   refine zK rfl rfl rfl rfl (hc2) ?_
   refine zF (cs := [_, _]) rfl rfl fun b10_1 hb10_1 => ?_
   refine qL [_, _, _, _] rfl ?_
   refine wI 3 (v := .agg #[.int .i64 _, .int .i64 _]) (vs := [_, _]) (c' := [_, _]) rfl rfl rfl rfl rfl rfl rfl rfl rfl ?_
   refine qL [_, _, _, _] rfl ?_
   refine qE ?_
   refine qB rfl ?_
   refine qA (qF rfl rfl rfl rfl 0 rfl) ?_
   refine qJ 3 (v := .int .i64 _) rfl rfl rfl rfl ?_
   refine qQ ?_
   refine qE ?_
   refine qB rfl ?_
   refine qA (qN (v := .bool _) rfl) ?_
   refine qA (qD (v := .bool _) rfl) ?_
   refine zJ rfl (rfl) ?_
   refine qE ?_
   refine qB rfl ?_
   refine qA (qN (v := .bool _) rfl) ?_
   refine qA (qD (v := .bool _) rfl) ?_
   refine zJ rfl (rfl) ?_
   refine qR ?_
   refine qB rfl ?_
   refine qA (qC (v := .int .i64 _) rfl) ?_
   refine qA (qS rfl (by omega)) ?_
   refine qA (qD (v := .int .i64 _) rfl) ?_
   refine ⟨(k + 1, o, AQ1, cQ1, AL1, cL1), ⟨intE (by omega), trivial⟩, rfl, rfl, E_k, fun h3 E3 => ⟨⟨by omega, hsc.symm⟩, (J2.ext (Ext.refl _)).ext E3, (J3.ext (Ext.refl _)).ext E3, J4, J5⟩, by first | omega | (dsimp only; omega), ?_⟩
   repeat (first | exact qW _ _ _ | refine wD (by decide) ?_ | refine qV rfl ?_ | refine wE rfl ?_)
  ·skip
   have hil : i < o.pins.length := by rw [J6]; exact own_pin_lt hasc hok
   have hol : o.pins.length ≤ m.pins.length := by rw [J6]; exact (own_mem (m := m) (fs := fs.drop (fs.length - k))).2.2.1
   refine zK rfl rfl rfl rfl (hc2) ?_
   refine zF (cs := [_, _]) rfl rfl fun b10_2 hb10_2 => ?_
   refine qL [_, _, _, _] rfl ?_
   refine wI 3 (v := .agg #[.int .i64 _, .int .i64 _]) (vs := [_, _]) (c' := [_, _]) rfl rfl rfl rfl rfl rfl rfl rfl rfl ?_
   refine qL [_, _, _, _] rfl ?_
   refine qE ?_
   refine qB rfl ?_
   refine qA (qF rfl rfl rfl rfl 0 rfl) ?_
   refine qJ 3 (v := .int .i64 _) rfl rfl rfl rfl ?_
   refine qQ ?_
   refine qE ?_
   refine qB rfl ?_
   refine qA (qN (v := .bool _) rfl) ?_
   refine qA (qD (v := .bool _) rfl) ?_
   refine xp_condT rfl (rfl) ?_
   refine qB rfl ?_
   refine qY 2 (vs := [.int .i64 _, .int .i64 _, .int .i64 _, .int .i64 _, .int .i64 _, .slice _ _ _, .slice _ _ _, .slice _ _ _, .slice _ _ _]) rfl rfl rfl rfl rfl ?_
   refine qA (qF rfl rfl rfl rfl 1 rfl) ?_
   refine qJ 3 (v := .int .i64 _) rfl rfl rfl rfl ?_
   refine wJ (caps := []) (vs := [.agg #[.int .i64 _, .int .i64 _, .int .i64 _, .int .i64 _, .int .i64 _, .slice _ _ _, .slice _ _ _, .slice _ _ _, .slice _ _ _], .int .i64 _]) rfl rfl rfl (WithoutPinR_ok o i hil (by omega) AB AQ1 AL1 AW cB cQ1 cL1 cW J4 h_k (J2.ext (Ext.refl _))) ?_
   rintro _ h2 E2 ⟨A2, c2, rfl, R2, C2⟩
   refine wI 2 (v := .agg #[.int .i64 _, .int .i64 _, .int .i64 _, .int .i64 _, .int .i64 _, .slice _ _ _, .slice _ _ _, .slice _ _ _, .slice _ _ _]) (vs := [_, _, _, _, _, _, _, _, _]) (c' := [_, _, _, _, _, _, _, _, _]) rfl rfl rfl rfl rfl rfl rfl rfl rfl ?_
   refine qL [_, _, _, _] rfl ?_
   refine qB rfl ?_
   refine qA (qC (v := .int .i64 _) rfl) ?_
   refine qA (qS rfl (by omega)) ?_
   refine qA (qD (v := .int .i64 _) rfl) ?_
   refine ⟨(k + 1, { o with pins := o.pins.eraseIdx i }, A2, c2, AL1, cL1), ⟨intE (by omega), trivial⟩, rfl, rfl, (zT E_k E2), fun h3 E3 => ⟨⟨by omega, hsc.symm⟩, (R2.ext (Ext.refl _)).ext E3, (J3.ext E2).ext E3, C2, J5⟩, by first | omega | (dsimp only; omega), ?_⟩
   repeat (first | exact qW _ _ _ | refine wD (by decide) ?_ | refine qV rfl ?_ | refine wE rfl ?_)
  ·skip
   have hil : i < o.links.length := by rw [J6]; exact own_link_lt hasc hok
   have hol : o.links.length ≤ m.links.length := by rw [J6]; exact (own_mem (m := m) (fs := fs.drop (fs.length - k))).2.2.2
   refine zK rfl rfl rfl rfl (hc2) ?_
   refine zF (cs := [_, _]) rfl rfl fun b10_3 hb10_3 => ?_
   refine qL [_, _, _, _] rfl ?_
   refine wI 3 (v := .agg #[.int .i64 _, .int .i64 _]) (vs := [_, _]) (c' := [_, _]) rfl rfl rfl rfl rfl rfl rfl rfl rfl ?_
   refine qL [_, _, _, _] rfl ?_
   refine qE ?_
   refine qB rfl ?_
   refine qA (qF rfl rfl rfl rfl 0 rfl) ?_
   refine qJ 3 (v := .int .i64 _) rfl rfl rfl rfl ?_
   refine qQ ?_
   refine qE ?_
   refine qB rfl ?_
   refine qA (qN (v := .bool _) rfl) ?_
   refine qA (qD (v := .bool _) rfl) ?_
   refine zJ rfl (rfl) ?_
   refine qE ?_
   refine qB rfl ?_
   refine qA (qN (v := .bool _) rfl) ?_
   refine qA (qD (v := .bool _) rfl) ?_
   refine xp_condT rfl (rfl) ?_
   refine qB rfl ?_
   refine qY 2 (vs := [.int .i64 _, .int .i64 _, .int .i64 _, .int .i64 _, .int .i64 _, .slice _ _ _, .slice _ _ _, .slice _ _ _, .slice _ _ _]) rfl rfl rfl rfl rfl ?_
   refine qA (qF rfl rfl rfl rfl 1 rfl) ?_
   refine qJ 3 (v := .int .i64 _) rfl rfl rfl rfl ?_
   refine wJ (caps := []) (vs := [.agg #[.int .i64 _, .int .i64 _, .int .i64 _, .int .i64 _, .int .i64 _, .slice _ _ _, .slice _ _ _, .slice _ _ _, .slice _ _ _], .int .i64 _]) rfl rfl rfl (WithoutLinkR_ok o i hil (by omega) AB AQ1 AL1 AW cB cQ1 cL1 cW J5 h_k (J3.ext (Ext.refl _))) ?_
   rintro _ h2 E2 ⟨A2, c2, rfl, R2, C2⟩
   refine wI 2 (v := .agg #[.int .i64 _, .int .i64 _, .int .i64 _, .int .i64 _, .int .i64 _, .slice _ _ _, .slice _ _ _, .slice _ _ _, .slice _ _ _]) (vs := [_, _, _, _, _, _, _, _, _]) (c' := [_, _, _, _, _, _, _, _, _]) rfl rfl rfl rfl rfl rfl rfl rfl rfl ?_
   refine qL [_, _, _, _] rfl ?_
   refine qB rfl ?_
   refine qA (qC (v := .int .i64 _) rfl) ?_
   refine qA (qS rfl (by omega)) ?_
   refine qA (qD (v := .int .i64 _) rfl) ?_
   refine ⟨(k + 1, { o with links := o.links.eraseIdx i }, AQ1, cQ1, A2, c2), ⟨intE (by omega), trivial⟩, rfl, rfl, (zT E_k E2), fun h3 E3 => ⟨⟨by omega, hsc.symm⟩, (J2.ext E2).ext E3, (R2.ext (Ext.refl _)).ext E3, J4, C2⟩, by first | omega | (dsimp only; omega), ?_⟩
   repeat (first | exact qW _ _ _ | refine wD (by decide) ?_ | refine qV rfl ?_ | refine wE rfl ?_)
 ·skip
  have hke : k = fs.length := by have := of_decide_eq_false hk; omega
  rw [hke, ownK_all] at J6
  subst J6
  obtain ⟨s1, s2, s3, s4, s5, s6, s7⟩ := own_same m fs
  have hX := own_sounds M H hfa
  obtain ⟨x, hx0⟩ : ∃ x, x = soundsM (brkM m fs) a m.travel := ⟨_, rfl⟩
  have L1 := soundsR_ok (ownR m fs) (own_mok M fs) a (fit_of (own_mok M fs) (own_hok H fs)) AB AQ1 AL1 AW HA OA cB cQ1 cL1 cW cH cO
  rw [s4, hX, ← hx0] at L1
  have RB1 := RM.b.ext (zT E1 E_k)
  have RW1 := RM.w.ext (zT E1 E_k)
  rw [← s6] at RB1
  rw [← s7] at RW1
  refine wV ?_
  refine qE ?_
  refine qB rfl ?_
  refine qY 2 (vs := [.int .i64 _, .int .i64 _, .int .i64 _, .int .i64 _, .int .i64 _, .slice _ _ _, .slice _ _ _, .slice _ _ _, .slice _ _ _]) rfl rfl rfl rfl rfl ?_
  refine qY 1 (vs := [.slice _ _ _, .slice _ _ _]) rfl rfl rfl rfl rfl ?_
  refine wJ (caps := []) (vs := [.agg _, .agg _]) rfl rfl rfl (L1 h_k ⟨RB1, J2.ext (Ext.refl _), J3.ext (Ext.refl _), RW1⟩ (RH.ext (zT E1 E_k))) ?_
  rintro _ h4 E4 ⟨A4, c4, rfl, R4⟩
  have bb := brk_bits mlv.2 hfo
  have hx6 : x < 2 ^ 6 := by
   rw [hx0]
   exact Nat.lt_of_lt_of_le (sounds_lt (brkM m fs) a m.travel) (Nat.pow_le_pow_right (by omega) (by show m.levers.toNat ≤ 6; omega))
  obtain ⟨sK, hsK⟩ : ∃ sK : Nat → Nat, ∀ k, sK k = x ||| (brkF m (fs.take k)).stay := ⟨fun k => x ||| (brkF m (fs.take k)).stay, fun _ => rfl⟩
  have hs0 : sK 0 = x := (hsK 0).trans (Nat.or_zero x)
  have hsS : ∀ k (hk : k < fs.length), sK (k + 1) = x ||| (brkS m.travel (brkF m (fs.take k)) fs[k]).stay := fun k hk => by rw [hsK, brkF_take hk]
  obtain ⟨y, hy⟩ : ∃ y, y = sK l.length := ⟨_, rfl⟩
  have hyv : y = x ||| (brkF m fs).stay := by rw [hy, hsK, ← hfl, List.take_length]
  have hy6 : y < 2 ^ 6 := by rw [hyv]; exact Nat.or_lt_two_pow hx6 bb.1
  obtain ⟨dK, hdK⟩ : ∃ dK : Nat → Nat, ∀ k, dK k = y &&& (2 ^ 64 - 1 - (brkF m (fs.take k)).dumb) := ⟨fun k => y &&& (2 ^ 64 - 1 - (brkF m (fs.take k)).dumb), fun _ => rfl⟩
  have hd0 : dK 0 = y := (hdK 0).trans (and_mask (by omega))
  have hdS : ∀ k (hk : k < fs.length), dK (k + 1) = y &&& (2 ^ 64 - 1 - (brkS m.travel (brkF m (fs.take k)) fs[k]).dumb) := fun k hk => by rw [hdK, brkF_take hk]
  have hdv : dK l.length = soundsB m fs a := by rw [hdK, ← hfl, List.take_length, hyv, hx0]; rfl
  have hdb : ∀ k, (brkF m (fs.take k)).dumb < 2 ^ 6 := fun k => (brk_bits mlv.2 (fun f hf => hfo f (take_mem hf))).2
  rw [← hdv]
  refine qA (qD (v := .slice _ _ _) rfl) ?_
  refine qE ?_
  refine qE ?_
  refine qB rfl ?_
  refine qA (qD (v := .int .i64 _) rfl) ?_
  refine qQ ?_
  refine zP [11, 12, 13, 50, 51, 52, 53, 54, 55, 56, 57, 58, 59, 60, 61, 62, 63, 64, 65, 66, 67, 68, 69, 70, 71, 72, 73, 74, 75, 76] 3 (α := Nat × Option Addr × Nat) (fun ⟨q, VA, cV⟩ => [(12, .int .i64 q), (11, .slice VA (listN (sK q) 6).length cV)]) (fun ⟨q, VA, cV⟩ => _) (fun ⟨q, VA, cV⟩ h_q => q ≤ l.length ∧ Row h_q 1 intC VA (listN (sK q) 6)) (fun ⟨q, VA, cV⟩ => l.length - q) ((0, A4, c4)) ⟨rfl, slcE (lenE hs0.symm), trivial⟩ (rfl) (⟨Nat.zero_le _, rowE hs0.symm (R4.ext (Ext.refl _))⟩) ?_
  rintro ⟨q, VA, cV⟩ T2 h_q E_q J_q
  refine qT [_, _, _] rfl ?_
  obtain ⟨Q1, Q2⟩ := J_q
  refine qE ?_
  refine qE ?_
  refine qB rfl ?_
  refine qA (qC (v := .int .i64 _) rfl) ?_
  refine qA (qC (v := .slice _ _ _) rfl) ?_
  refine qA (wK rfl rfl) ?_
  refine qA (qN (v := .bool _) rfl) ?_
  refine qU rfl (fun hq => ?_) (fun hq => ?_)
  ·skip
   have hql : q < l.length := ltI hq
   have hqf : q < fs.length := by omega
   obtain ⟨hx, hfe⟩ := hfx q hql hqf
   have hl0 := hls _ (List.getElem_mem hql)
   have hsc := hsS q hqf
   have hok := hfo _ (List.getElem_mem hqf)
   rw [hfe] at hsc hok
   have hll2 := listN_len (sK q) 6
   obtain ⟨g, off, hA, hc⟩ := (RN.ext (zT (zT (zT E1 E_k) E4) E_q)).at (by omega) hql
   obtain ⟨g2, off2, hA2, hc2⟩ := (RF.ext (zT (zT E_k E4) E_q)).at (by omega) hx
   obtain ⟨F, hF⟩ : ∃ F, F = (faultsM m)[l[q].toNat] := ⟨_, rfl⟩
   rw [← hF] at hc2 hsc hok
   refine qR ?_
   refine qE ?_
   refine qQ ?_
   refine qE ?_
   refine qB rfl ?_
   refine qA (qC (v := .slice _ _ _) rfl) ?_
   refine qA (qC (v := .slice _ _ _) rfl) ?_
   refine qA (qC (v := .int .i64 _) rfl) ?_
   refine qA (wG rfl hA rfl rfl rfl (by omega) (by omega)) ?_
   refine wS (v := .int .i64 _) rfl rfl ((hc) 0 _ rfl) ?_
   refine qA (wG (m := 2) rfl hA2 rfl rfl rfl (by omega) (by omega)) ?_
   rcases F with i | i | i | i
   ·skip
    have hsc : sK (q + 1) = sK q := hsc.trans (hsK q).symm
    refine zK rfl rfl rfl rfl (hc2) ?_
    refine zF (cs := [_, _]) rfl rfl fun b13 hb13 => ?_
    refine qL [_, _, _, _] rfl ?_
    refine wI 3 (v := .agg #[.int .i64 _, .int .i64 _]) (vs := [_, _]) (c' := [_, _]) rfl rfl rfl rfl rfl rfl rfl rfl rfl ?_
    refine qL [_, _, _, _] rfl ?_
    refine qE ?_
    refine qB rfl ?_
    refine qA (qF rfl rfl rfl rfl 0 rfl) ?_
    refine qJ 3 (v := .int .i64 _) rfl rfl rfl rfl ?_
    refine qA (qN (v := .bool _) rfl) ?_
    refine qA (qC (v := .bool _) rfl) ?_
    refine qK rfl rfl ?_
    refine qK rfl rfl ?_
    refine qK rfl rfl ?_
    refine qK rfl rfl ?_
    refine qK rfl rfl ?_
    refine qA (wT rfl rfl (v := .bool _) rfl) ?_
    refine zJ rfl (rfl) ?_
    refine qR ?_
    refine qB rfl ?_
    refine qA (qC (v := .int .i64 _) rfl) ?_
    refine qA (qS rfl (by omega)) ?_
    refine qA (qD (v := .int .i64 _) rfl) ?_
    refine ⟨(q + 1, VA, cV), ⟨rfl, slcE (lenE hsc.symm), trivial⟩, rfl, rfl, E_q, fun h3 E3 => ⟨hql, rowE hsc.symm ((Q2.ext (Ext.refl _)).ext E3)⟩, by first | omega | (dsimp only; omega), ?_⟩
    repeat (first | exact qW _ _ _ | refine wD (by decide) ?_ | refine qV rfl ?_ | refine wE rfl ?_)
   ·skip
    have hi6 : i < 6 := by have : (i : Int) < m.levers := hok; omega
    have hsc : sK (q + 1) = sK q ||| 2 ^ i := by rw [hsc, hsK q, Nat.or_assoc]; rfl
    refine zK rfl rfl rfl rfl (hc2) ?_
    refine zF (cs := [_, _]) rfl rfl fun b13_1 hb13_1 => ?_
    refine qL [_, _, _, _] rfl ?_
    refine wI 3 (v := .agg #[.int .i64 _, .int .i64 _]) (vs := [_, _]) (c' := [_, _]) rfl rfl rfl rfl rfl rfl rfl rfl rfl ?_
    refine qL [_, _, _, _] rfl ?_
    refine qE ?_
    refine qB rfl ?_
    refine qA (qF rfl rfl rfl rfl 0 rfl) ?_
    refine qJ 3 (v := .int .i64 _) rfl rfl rfl rfl ?_
    refine qA (qN (v := .bool _) rfl) ?_
    refine qA (qC (v := .bool _) rfl) ?_
    refine qG rfl rfl ?_
    refine qA (qC (v := .slice _ _ _) rfl) ?_
    refine qG rfl rfl ?_
    refine qA (qF rfl rfl rfl rfl 1 rfl) ?_
    refine qG rfl rfl ?_
    refine qJ 3 (v := .int .i64 _) rfl rfl rfl rfl ?_
    refine qG rfl rfl ?_
    refine wJ (caps := []) (vs := [.slice _ _ _, .int .i64 _]) rfl rfl rfl (hasR_ok (listN (sK q) 6) i VA cV h_q (Q2.ext (Ext.refl _)) (by omega)) ?_
    rintro _ h5 E5 rfl
    rw [has_bit hi6]
    refine qG rfl rfl ?_
    refine qA (qN (v := .bool _) rfl) ?_
    refine qA (wP rfl rfl (v := .bool _) rfl) ?_
    refine qU rfl (fun hb => ?_) (fun hb => ?_)
    ·skip
     have hb' : (sK q).testBit i = false := by simpa using hb
     refine qB rfl ?_
     refine qA (qC (v := .slice _ _ _) rfl) ?_
     refine qA (qF rfl rfl rfl rfl 1 rfl) ?_
     refine qJ 3 (v := .int .i64 _) rfl rfl rfl rfl ?_
     refine wJ (caps := []) (vs := [.slice _ _ _, .int .i64 _]) rfl rfl rfl (withR_ok (listN (sK q) 6) i VA cV h5 (Q2.ext E5) (by omega)) ?_
     rintro _ h6 E6 ⟨A6, c6, rfl, R6⟩
     rw [with_list hi6 hb'] at R6 ⊢
     refine qA (qD (v := .slice _ _ _) rfl) ?_
     refine qB rfl ?_
     refine qA (qC (v := .int .i64 _) rfl) ?_
     refine qA (qS rfl (by omega)) ?_
     refine qA (qD (v := .int .i64 _) rfl) ?_
     refine ⟨(q + 1, A6, c6), ⟨rfl, slcE (lenE hsc.symm), trivial⟩, rfl, rfl, (zT (zT E_q E5) E6), fun h3 E3 => ⟨hql, rowE hsc.symm ((R6.ext (Ext.refl _)).ext E3)⟩, by first | omega | (dsimp only; omega), ?_⟩
     repeat (first | exact qW _ _ _ | refine wD (by decide) ?_ | refine qV rfl ?_ | refine wE rfl ?_)
    ·skip
     have hb' : (sK q).testBit i = true := by simpa using hb
     have hsc : sK (q + 1) = sK q := hsc.trans (with_had hb')
     refine qR ?_
     refine qB rfl ?_
     refine qA (qC (v := .int .i64 _) rfl) ?_
     refine qA (qS rfl (by omega)) ?_
     refine qA (qD (v := .int .i64 _) rfl) ?_
     refine ⟨(q + 1, VA, cV), ⟨rfl, slcE (lenE hsc.symm), trivial⟩, rfl, rfl, (zT E_q E5), fun h3 E3 => ⟨hql, rowE hsc.symm ((Q2.ext E5).ext E3)⟩, by first | omega | (dsimp only; omega), ?_⟩
     repeat (first | exact qW _ _ _ | refine wD (by decide) ?_ | refine qV rfl ?_ | refine wE rfl ?_)
   ·skip
    have hsc : sK (q + 1) = sK q := hsc.trans (hsK q).symm
    refine zK rfl rfl rfl rfl (hc2) ?_
    refine zF (cs := [_, _]) rfl rfl fun b13_2 hb13_2 => ?_
    refine qL [_, _, _, _] rfl ?_
    refine wI 3 (v := .agg #[.int .i64 _, .int .i64 _]) (vs := [_, _]) (c' := [_, _]) rfl rfl rfl rfl rfl rfl rfl rfl rfl ?_
    refine qL [_, _, _, _] rfl ?_
    refine qE ?_
    refine qB rfl ?_
    refine qA (qF rfl rfl rfl rfl 0 rfl) ?_
    refine qJ 3 (v := .int .i64 _) rfl rfl rfl rfl ?_
    refine qA (qN (v := .bool _) rfl) ?_
    refine qA (qC (v := .bool _) rfl) ?_
    refine qK rfl rfl ?_
    refine qK rfl rfl ?_
    refine qK rfl rfl ?_
    refine qK rfl rfl ?_
    refine qK rfl rfl ?_
    refine qA (wT rfl rfl (v := .bool _) rfl) ?_
    refine zJ rfl (rfl) ?_
    refine qR ?_
    refine qB rfl ?_
    refine qA (qC (v := .int .i64 _) rfl) ?_
    refine qA (qS rfl (by omega)) ?_
    refine qA (qD (v := .int .i64 _) rfl) ?_
    refine ⟨(q + 1, VA, cV), ⟨rfl, slcE (lenE hsc.symm), trivial⟩, rfl, rfl, E_q, fun h3 E3 => ⟨hql, rowE hsc.symm ((Q2.ext (Ext.refl _)).ext E3)⟩, by first | omega | (dsimp only; omega), ?_⟩
    repeat (first | exact qW _ _ _ | refine wD (by decide) ?_ | refine qV rfl ?_ | refine wE rfl ?_)
   ·skip
    have hsc : sK (q + 1) = sK q := hsc.trans (hsK q).symm
    refine zK rfl rfl rfl rfl (hc2) ?_
    refine zF (cs := [_, _]) rfl rfl fun b13_3 hb13_3 => ?_
    refine qL [_, _, _, _] rfl ?_
    refine wI 3 (v := .agg #[.int .i64 _, .int .i64 _]) (vs := [_, _]) (c' := [_, _]) rfl rfl rfl rfl rfl rfl rfl rfl rfl ?_
    refine qL [_, _, _, _] rfl ?_
    refine qE ?_
    refine qB rfl ?_
    refine qA (qF rfl rfl rfl rfl 0 rfl) ?_
    refine qJ 3 (v := .int .i64 _) rfl rfl rfl rfl ?_
    refine qA (qN (v := .bool _) rfl) ?_
    refine qA (qC (v := .bool _) rfl) ?_
    refine qK rfl rfl ?_
    refine qK rfl rfl ?_
    refine qK rfl rfl ?_
    refine qK rfl rfl ?_
    refine qK rfl rfl ?_
    refine qA (wT rfl rfl (v := .bool _) rfl) ?_
    refine zJ rfl (rfl) ?_
    refine qR ?_
    refine qB rfl ?_
    refine qA (qC (v := .int .i64 _) rfl) ?_
    refine qA (qS rfl (by omega)) ?_
    refine qA (qD (v := .int .i64 _) rfl) ?_
    refine ⟨(q + 1, VA, cV), ⟨rfl, slcE (lenE hsc.symm), trivial⟩, rfl, rfl, E_q, fun h3 E3 => ⟨hql, rowE hsc.symm ((Q2.ext (Ext.refl _)).ext E3)⟩, by first | omega | (dsimp only; omega), ?_⟩
    repeat (first | exact qW _ _ _ | refine wD (by decide) ?_ | refine qV rfl ?_ | refine wE rfl ?_)
  ·skip
   have hqe : q = l.length := by have := geI hq; omega
   subst hqe
   have hyd : sK l.length = dK 0 := hy.symm.trans hd0.symm
   refine wV ?_
   refine qE ?_
   refine qE ?_
   refine qB rfl ?_
   refine qA (qD (v := .int .i64 _) rfl) ?_
   refine qQ ?_
   refine zP [11, 14, 15, 77, 78, 79, 80, 81, 82, 83, 84, 85, 86, 87, 88, 89, 90, 91, 92, 93, 94, 95, 96] 3 (α := Nat × Option Addr × Nat) (fun ⟨z, VB, cV2⟩ => [(14, .int .i64 z), (11, .slice VB (listN (dK z) 6).length cV2)]) (fun ⟨z, VB, cV2⟩ => _) (fun ⟨z, VB, cV2⟩ h_z => z ≤ l.length ∧ Row h_z 1 intC VB (listN (dK z) 6)) (fun ⟨z, VB, cV2⟩ => l.length - z) ((0, VA, cV)) ⟨rfl, slcE (lenE hyd), trivial⟩ (rfl) (⟨Nat.zero_le _, rowE hyd (Q2.ext (Ext.refl _))⟩) ?_
   rintro ⟨z, VB, cV2⟩ T3 h_z E_z J_z
   refine qT [_, _, _] rfl ?_
   obtain ⟨Z1, Z2⟩ := J_z
   refine qE ?_
   refine qE ?_
   refine qB rfl ?_
   refine qA (qC (v := .int .i64 _) rfl) ?_
   refine qA (qC (v := .slice _ _ _) rfl) ?_
   refine qA (wK rfl rfl) ?_
   refine qA (qN (v := .bool _) rfl) ?_
   refine qU rfl (fun hz => ?_) (fun hz => ?_)
   ·skip
    have hzl : z < l.length := ltI hz
    have hzf : z < fs.length := by omega
    obtain ⟨hx, hfe⟩ := hfx z hzl hzf
    have hl0 := hls _ (List.getElem_mem hzl)
    have hsc := hdS z hzf
    have hok := hfo _ (List.getElem_mem hzf)
    rw [hfe] at hsc hok
    have hll2 := listN_len (dK z) 6
    obtain ⟨g, off, hA, hc⟩ := (RN.ext (zT (zT (zT (zT E1 E_k) E4) E_q) E_z)).at (by omega) hzl
    obtain ⟨g2, off2, hA2, hc2⟩ := (RF.ext (zT (zT (zT E_k E4) E_q) E_z)).at (by omega) hx
    obtain ⟨F, hF⟩ : ∃ F, F = (faultsM m)[l[z].toNat] := ⟨_, rfl⟩
    rw [← hF] at hc2 hsc hok
    refine qR ?_
    refine qE ?_
    refine qQ ?_
    refine qE ?_
    refine qB rfl ?_
    refine qA (qC (v := .slice _ _ _) rfl) ?_
    refine qA (qC (v := .slice _ _ _) rfl) ?_
    refine qA (qC (v := .int .i64 _) rfl) ?_
    refine qA (wG rfl hA rfl rfl rfl (by omega) (by omega)) ?_
    refine wS (v := .int .i64 _) rfl rfl ((hc) 0 _ rfl) ?_
    refine qA (wG (m := 2) rfl hA2 rfl rfl rfl (by omega) (by omega)) ?_
    rcases F with i | i | i | i
    ·skip
     have hi6 : i < 6 := by have : (i : Int) < m.levers := hok; omega
     have hwl : (listN (dK z) 6).filter (fun u => u != (i : Int)) = listN (dK (z + 1)) 6 := by rw [hsc, hdK z]; exact without_list (hdb z) hi6
     refine zK rfl rfl rfl rfl (hc2) ?_
     refine zF (cs := [_, _]) rfl rfl fun b15 hb15 => ?_
     refine qL [_, _, _, _] rfl ?_
     refine wI 3 (v := .agg #[.int .i64 _, .int .i64 _]) (vs := [_, _]) (c' := [_, _]) rfl rfl rfl rfl rfl rfl rfl rfl rfl ?_
     refine qL [_, _, _, _] rfl ?_
     refine qE ?_
     refine qB rfl ?_
     refine qA (qF rfl rfl rfl rfl 0 rfl) ?_
     refine qJ 3 (v := .int .i64 _) rfl rfl rfl rfl ?_
     refine qA (qN (v := .bool _) rfl) ?_
     refine xp_condT rfl (rfl) ?_
     refine qB rfl ?_
     refine qA (qC (v := .slice _ _ _) rfl) ?_
     refine qA (qF rfl rfl rfl rfl 1 rfl) ?_
     refine qJ 3 (v := .int .i64 _) rfl rfl rfl rfl ?_
     refine wJ (caps := []) (vs := [.slice _ _ _, .int .i64 _]) rfl rfl rfl (withoutR_ok (listN (dK z) 6) i VB cV2 h_z (Z2.ext (Ext.refl _)) (by omega)) ?_
     rintro _ h6 E6 ⟨A6, c6, rfl, R6⟩
     rw [hwl] at R6 ⊢
     refine qA (qD (v := .slice _ _ _) rfl) ?_
     refine qB rfl ?_
     refine qA (qC (v := .int .i64 _) rfl) ?_
     refine qA (qS rfl (by omega)) ?_
     refine qA (qD (v := .int .i64 _) rfl) ?_
     refine ⟨(z + 1, A6, c6), ⟨rfl, rfl, trivial⟩, rfl, rfl, (zT E_z E6), fun h3 E3 => ⟨hzl, (R6.ext (Ext.refl _)).ext E3⟩, by first | omega | (dsimp only; omega), ?_⟩
     repeat (first | exact qW _ _ _ | refine wD (by decide) ?_ | refine qV rfl ?_ | refine wE rfl ?_)
    ·skip
     have hsc : dK (z + 1) = dK z := hsc.trans (hdK z).symm
     refine zK rfl rfl rfl rfl (hc2) ?_
     refine zF (cs := [_, _]) rfl rfl fun b15_1 hb15_1 => ?_
     refine qL [_, _, _, _] rfl ?_
     refine wI 3 (v := .agg #[.int .i64 _, .int .i64 _]) (vs := [_, _]) (c' := [_, _]) rfl rfl rfl rfl rfl rfl rfl rfl rfl ?_
     refine qL [_, _, _, _] rfl ?_
     refine qE ?_
     refine qB rfl ?_
     refine qA (qF rfl rfl rfl rfl 0 rfl) ?_
     refine qJ 3 (v := .int .i64 _) rfl rfl rfl rfl ?_
     refine qA (qN (v := .bool _) rfl) ?_
     refine zJ rfl (rfl) ?_
     refine qR ?_
     refine qB rfl ?_
     refine qA (qC (v := .int .i64 _) rfl) ?_
     refine qA (qS rfl (by omega)) ?_
     refine qA (qD (v := .int .i64 _) rfl) ?_
     refine ⟨(z + 1, VB, cV2), ⟨rfl, slcE (lenE hsc.symm), trivial⟩, rfl, rfl, E_z, fun h3 E3 => ⟨hzl, rowE hsc.symm ((Z2.ext (Ext.refl _)).ext E3)⟩, by first | omega | (dsimp only; omega), ?_⟩
     repeat (first | exact qW _ _ _ | refine wD (by decide) ?_ | refine qV rfl ?_ | refine wE rfl ?_)
    ·skip
     have hsc : dK (z + 1) = dK z := hsc.trans (hdK z).symm
     refine zK rfl rfl rfl rfl (hc2) ?_
     refine zF (cs := [_, _]) rfl rfl fun b15_2 hb15_2 => ?_
     refine qL [_, _, _, _] rfl ?_
     refine wI 3 (v := .agg #[.int .i64 _, .int .i64 _]) (vs := [_, _]) (c' := [_, _]) rfl rfl rfl rfl rfl rfl rfl rfl rfl ?_
     refine qL [_, _, _, _] rfl ?_
     refine qE ?_
     refine qB rfl ?_
     refine qA (qF rfl rfl rfl rfl 0 rfl) ?_
     refine qJ 3 (v := .int .i64 _) rfl rfl rfl rfl ?_
     refine qA (qN (v := .bool _) rfl) ?_
     refine zJ rfl (rfl) ?_
     refine qR ?_
     refine qB rfl ?_
     refine qA (qC (v := .int .i64 _) rfl) ?_
     refine qA (qS rfl (by omega)) ?_
     refine qA (qD (v := .int .i64 _) rfl) ?_
     refine ⟨(z + 1, VB, cV2), ⟨rfl, slcE (lenE hsc.symm), trivial⟩, rfl, rfl, E_z, fun h3 E3 => ⟨hzl, rowE hsc.symm ((Z2.ext (Ext.refl _)).ext E3)⟩, by first | omega | (dsimp only; omega), ?_⟩
     repeat (first | exact qW _ _ _ | refine wD (by decide) ?_ | refine qV rfl ?_ | refine wE rfl ?_)
    ·skip
     have hsc : dK (z + 1) = dK z := hsc.trans (hdK z).symm
     refine zK rfl rfl rfl rfl (hc2) ?_
     refine zF (cs := [_, _]) rfl rfl fun b15_3 hb15_3 => ?_
     refine qL [_, _, _, _] rfl ?_
     refine wI 3 (v := .agg #[.int .i64 _, .int .i64 _]) (vs := [_, _]) (c' := [_, _]) rfl rfl rfl rfl rfl rfl rfl rfl rfl ?_
     refine qL [_, _, _, _] rfl ?_
     refine qE ?_
     refine qB rfl ?_
     refine qA (qF rfl rfl rfl rfl 0 rfl) ?_
     refine qJ 3 (v := .int .i64 _) rfl rfl rfl rfl ?_
     refine qA (qN (v := .bool _) rfl) ?_
     refine zJ rfl (rfl) ?_
     refine qR ?_
     refine qB rfl ?_
     refine qA (qC (v := .int .i64 _) rfl) ?_
     refine qA (qS rfl (by omega)) ?_
     refine qA (qD (v := .int .i64 _) rfl) ?_
     refine ⟨(z + 1, VB, cV2), ⟨rfl, slcE (lenE hsc.symm), trivial⟩, rfl, rfl, E_z, fun h3 E3 => ⟨hzl, rowE hsc.symm ((Z2.ext (Ext.refl _)).ext E3)⟩, by first | omega | (dsimp only; omega), ?_⟩
     repeat (first | exact qW _ _ _ | refine wD (by decide) ?_ | refine qV rfl ?_ | refine wE rfl ?_)
   ·skip
    have hze : z = l.length := by have := geI hz; omega
    subst hze
    refine wV ?_
    refine qE ?_
    refine qB rfl ?_
    refine qA (qC (v := .slice _ _ _) rfl) ?_
    refine qA (qD (v := .slice _ _ _) rfl) ?_
    refine qZ ?_
    refine qP (vs := [_]) Tryz.results65 ⟨qM rfl rfl, trivial⟩ fun V => ?_
    exact ⟨(zT (zT (zT (zT (zT E1 E_k) E4) E_q) E_z) (qX V)), VB, cV2, rfl, (Z2.ext (Ext.refl _)).ext (qX V)⟩
end
end Go.Proofs.YthphpbdmbmiaiaaGreat
namespace Go.Proofs.YthphpbdmbmiaiaaGreat
open Go Go.HL Go.Proofs Go.Wx Go.Rd
section
variable [Lvl]
set_option maxRecDepth 100000
theorem BrokenR_ok (m : MachP) (M : MOK m) (l : List Int) (S : SetOK l (faultsM m).length) (a : HandP) (H : HOK m a) (AB AQ AL AW NA HA OA : Option Addr) (cB cQ cL cW cN cH cO : Nat) (hcQ : m.pins.length ≤ cQ) (hcL : m.links.length ≤ cL) (h : AH) (RM : MachR h AB AQ AL AW m) (RN : Row h 1 intC NA l) (RH : HandR h HA OA a) :
  FnT Tryz.prog 36 #[machV AB AQ AL AW cB cQ cL cW m, .slice NA l.length cN, handV HA OA cH cO a] h (fun v h' => ∃ L, v = .tuple #[L, .int .i64 0] ∧ SlR h' 1 intC (listN (soundsB m (pickL m l) a) 6) L) := by
 have mlv := M.levers
 have mpl := M.pl
 have mll := M.ll
 have fl := faults_len m
 have hll : l.length ≤ (faultsM m).length := set_len S
 have hs : checkSetM l (faultsM m).length = 0 := checkSet_iff.2 S
 have hd : checkHandM m a = 0 := hand_of M H
 have L1 := checkSetR_ok l (faultsM m).length (by omega) NA cN
 rw [hs] at L1
 have L2 := checkHandR_ok m M a AB AQ AL AW HA OA cB cQ cL cW cH cO
 rw [hd] at L2
 refine wM Tryz.func36 rfl Tryz.ntmps36 rfl ?_
 refine qE ?_
 refine qB rfl ?_
 refine zG (v := .agg #[.int .i64 _, .int .i64 _, .int .i64 _, .int .i64 _, .int .i64 _, .slice _ _ _, .slice _ _ _, .slice _ _ _, .slice _ _ _]) (cs := [_, _, _, _, _, _, _, _, _]) rfl rfl fun b3 hb3 => ?_
 refine qL [_] rfl ?_
 refine zG (v := .agg #[.slice _ _ _, .slice _ _ _]) (cs := [_, _]) rfl rfl fun b5 hb5 => ?_
 refine qL [_, _] rfl ?_
 refine qA (qD (v := .slice _ _ _) rfl) ?_
 refine qA (qD (v := .int .i64 _) rfl) ?_
 refine qE ?_
 refine qE ?_
 refine qB rfl ?_
 refine qY 0 (vs := [.int .i64 _, .int .i64 _, .int .i64 _, .int .i64 _, .int .i64 _, .slice _ _ _, .slice _ _ _, .slice _ _ _, .slice _ _ _]) rfl rfl rfl rfl rfl ?_
 refine wJ (caps := []) (vs := [.agg #[.int .i64 _, .int .i64 _, .int .i64 _, .int .i64 _, .int .i64 _, .slice _ _ _, .slice _ _ _, .slice _ _ _, .slice _ _ _]]) rfl rfl rfl (CheckR_ok m M AB AQ AL AW cB cQ cL cW h (RM.ext (Ext.refl _))) ?_
 rintro _ h3 E3 rfl
 refine qA (qD (v := .int .i64 _) rfl) ?_
 refine qE ?_
 refine qB rfl ?_
 refine qA (qC (v := .int .i64 _) rfl) ?_
 refine qA (qN (v := .bool _) rfl) ?_
 refine zJ rfl (rfl) ?_
 refine qR ?_
 refine qE ?_
 refine qE ?_
 refine qB rfl ?_
 refine qA (qC (v := .slice _ _ _) rfl) ?_
 refine qY 0 (vs := [.int .i64 _, .int .i64 _, .int .i64 _, .int .i64 _, .int .i64 _, .slice _ _ _, .slice _ _ _, .slice _ _ _, .slice _ _ _]) rfl rfl rfl rfl rfl ?_
 refine wJ (caps := []) (vs := [.agg #[.int .i64 _, .int .i64 _, .int .i64 _, .int .i64 _, .int .i64 _, .slice _ _ _, .slice _ _ _, .slice _ _ _, .slice _ _ _]]) rfl rfl rfl (faultsR_ok m M AB AQ AL AW cB cQ cL cW h3) ?_
 rintro _ h4 E4 ⟨FA, cF, rfl, RF⟩
 refine qA (wK rfl rfl) ?_
 refine wJ (caps := []) (vs := [.slice _ _ _, .int .i64 _]) rfl rfl rfl (L1 h4 (RN.ext (zT E3 E4)) (by omega)) ?_
 rintro _ h5 E5 rfl
 refine qA (qD (v := .int .i64 _) rfl) ?_
 refine qE ?_
 refine qB rfl ?_
 refine qA (qC (v := .int .i64 _) rfl) ?_
 refine qA (qN (v := .bool _) rfl) ?_
 refine zJ rfl (rfl) ?_
 refine qR ?_
 refine qE ?_
 refine qE ?_
 refine qB rfl ?_
 refine qY 0 (vs := [.int .i64 _, .int .i64 _, .int .i64 _, .int .i64 _, .int .i64 _, .slice _ _ _, .slice _ _ _, .slice _ _ _, .slice _ _ _]) rfl rfl rfl rfl rfl ?_
 refine qY 1 (vs := [.slice _ _ _, .slice _ _ _]) rfl rfl rfl rfl rfl ?_
 refine wJ (caps := []) (vs := [.agg _, .agg _]) rfl rfl rfl (L2 h5 (RH.ext (zT (zT E3 E4) E5)) (H.blen M) (H.olen M)) ?_
 rintro _ h6 E6 rfl
 refine qA (qD (v := .int .i64 _) rfl) ?_
 refine qE ?_
 refine qB rfl ?_
 refine qA (qC (v := .int .i64 _) rfl) ?_
 refine qA (qN (v := .bool _) rfl) ?_
 refine zJ rfl (rfl) ?_
 refine qR ?_
 refine qE ?_
 refine qB rfl ?_
 refine qY 0 (vs := [.int .i64 _, .int .i64 _, .int .i64 _, .int .i64 _, .int .i64 _, .slice _ _ _, .slice _ _ _, .slice _ _ _, .slice _ _ _]) rfl rfl rfl rfl rfl ?_
 refine qA (qC (v := .slice _ _ _) rfl) ?_
 refine qY 1 (vs := [.slice _ _ _, .slice _ _ _]) rfl rfl rfl rfl rfl ?_
 refine wJ (caps := []) (vs := [.agg #[.int .i64 _, .int .i64 _, .int .i64 _, .int .i64 _, .int .i64 _, .slice _ _ _, .slice _ _ _, .slice _ _ _, .slice _ _ _], .slice _ _ _, .agg #[.slice _ _ _, .slice _ _ _]]) rfl rfl rfl (brokenR_ok m M l S a H AB AQ AL AW NA HA OA cB cQ cL cW cN cH cO hcQ hcL h6 (RM.ext (zT (zT (zT E3 E4) E5) E6)) (RN.ext (zT (zT (zT E3 E4) E5) E6)) (RH.ext (zT (zT (zT E3 E4) E5) E6))) ?_
 rintro _ h7 E7 ⟨A7, c7, rfl, R7⟩
 refine qA (qD (v := .slice _ _ _) rfl) ?_
 refine qA (qD (v := .int .i64 _) rfl) ?_
 refine qZ ?_
 refine qP (vs := [_, _]) Tryz.results36 ⟨qM rfl rfl, qM rfl rfl, trivial⟩ fun V => ?_
 exact ⟨(zT (zT (zT (zT (zT E3 E4) E5) E6) E7) (qX V)), _, rfl, A7, c7, rfl, R7.ext (qX V)⟩
theorem toldR_ok (m : MachP) (M : MOK m) (f : Int) (hf : -1 ≤ f ∧ f < (faultsM m).length) (a : HandP) (H : HOK m a) (AB AQ AL AW HA OA : Option Addr) (cB cQ cL cW cH cO : Nat) (hcQ : m.pins.length ≤ cQ) (hcL : m.links.length ≤ cL) (h : AH) (RM : MachR h AB AQ AL AW m) (RH : HandR h HA OA a) :
  FnT Tryz.prog 80 #[machV AB AQ AL AW cB cQ cL cW m, .int .i64 f, handV HA OA cH cO a] h (fun v h' => SlR h' 1 intC (listN (aloneM m f a) 6) v) := by
 refine wM Tryz.func80 rfl Tryz.ntmps80 rfl ?_
 refine qE ?_
 refine qB rfl ?_
 refine zG (v := .agg #[.int .i64 _, .int .i64 _, .int .i64 _, .int .i64 _, .int .i64 _, .slice _ _ _, .slice _ _ _, .slice _ _ _, .slice _ _ _]) (cs := [_, _, _, _, _, _, _, _, _]) rfl rfl fun b3 hb3 => ?_
 refine qL [_] rfl ?_
 refine zG (v := .agg #[.slice _ _ _, .slice _ _ _]) (cs := [_, _]) rfl rfl fun b5 hb5 => ?_
 refine qL [_, _] rfl ?_
 refine qA (qD (v := .slice _ _ _) rfl) ?_
 refine qE ?_
 refine qE ?_
 refine qB rfl ?_
 refine qA (qC (v := .int .i64 _) rfl) ?_
 refine qA (qN (v := .bool _) rfl) ?_
 refine qU rfl (fun hn => ?_) (fun hn => ?_)
 ·skip
  have hn' : f < 0 := of_decide_eq_true hn
  have e : aloneM m f a = soundsM m a m.travel := by rw [aloneM, pickF, if_pos hn', soundsB_nil M]
  have L1 := soundsR_ok m M a (fit_of M H) AB AQ AL AW HA OA cB cQ cL cW cH cO
  rw [← e] at L1
  refine qE ?_
  refine qB rfl ?_
  refine qY 0 (vs := [.int .i64 _, .int .i64 _, .int .i64 _, .int .i64 _, .int .i64 _, .slice _ _ _, .slice _ _ _, .slice _ _ _, .slice _ _ _]) rfl rfl rfl rfl rfl ?_
  refine qY 1 (vs := [.slice _ _ _, .slice _ _ _]) rfl rfl rfl rfl rfl ?_
  refine wJ (caps := []) (vs := [.agg _, .agg _]) rfl rfl rfl (L1 h (RM.ext (Ext.refl _)) (RH.ext (Ext.refl _))) ?_
  rintro _ h3 E3 ⟨A3, c3, rfl, S3⟩
  refine qA (qD (v := .slice _ _ _) rfl) ?_
  refine qZ ?_
  refine qP (vs := [_]) Tryz.results80 ⟨qM rfl rfl, trivial⟩ fun V => ?_
  exact ⟨(zT E3 (qX V)), A3, c3, rfl, S3.ext (qX V)⟩
 ·skip
  have hn' : 0 ≤ f := by have := of_decide_eq_false hn; omega
  have SO : SetOK [f] (faultsM m).length := ⟨fun x hx => by simp at hx; omega, by simp⟩
  have e : aloneM m f a = soundsB m (pickL m [f]) a := by rw [aloneM, (pickF_at hn' hf.2).1]
  refine qR ?_
  refine qE ?_
  refine qB rfl ?_
  refine qY 0 (vs := [.int .i64 _, .int .i64 _, .int .i64 _, .int .i64 _, .int .i64 _, .slice _ _ _, .slice _ _ _, .slice _ _ _, .slice _ _ _]) rfl rfl rfl rfl rfl ?_
  refine qA (qC (v := .int .i64 _) rfl) ?_
  refine wA (zc := [_]) (vs := [(0, .int .i64 _)]) (cs := [_]) rfl rfl rfl rfl rfl rfl rfl fun b14 hb14 => ?_
  refine qL [_, _, _] rfl ?_
  refine qY 1 (vs := [.slice _ _ _, .slice _ _ _]) rfl rfl rfl rfl rfl ?_
  refine wp_pub 2 rfl rfl ?_
  intro h3 E3 p3
  refine qL [_, _, _] rfl ?_
  have L1 := brokenR_ok m M [f] SO a H AB AQ AL AW (some ⟨b14, 0, none⟩) HA OA cB cQ cL cW 1 cH cO hcQ hcL
  rw [← e] at L1
  refine wJ (caps := []) (vs := [.agg _, .slice _ _ _, .agg _]) rfl rfl rfl (L1 h3 (RM.ext E3) (row_one p3) (RH.ext E3)) ?_
  rintro _ h4 E4 ⟨A4, c4, rfl, S4⟩
  refine qA (qD (v := .slice _ _ _) rfl) ?_
  refine qZ ?_
  refine qP (vs := [_]) Tryz.results80 ⟨qM rfl rfl, trivial⟩ fun V => ?_
  exact ⟨(zT (zT E3 E4) (qX V)), A4, c4, rfl, S4.ext (qX V)⟩
def leftN (ss : List Nat) : Nat → Nat
 | 0 => 0
 | k + 1 => max (leftN ss k) (ss.count (ss.getD k 0))
def aloneL (m : MachP) (l : List Int) (a : HandP) : List Nat := l.map fun f => aloneM m f a
theorem count_take {ss : List Nat} {v k : Nat} (hk : k < ss.length) : (ss.take (k + 1)).count v = (ss.take k).count v + if ss[k] = v then 1 else 0 := by
 rw [take_snoc hk, List.count_append, List.count_singleton]
 simp
theorem leftN_le (ss : List Nat) : ∀ k, leftN ss k ≤ ss.length
 | 0 => Nat.zero_le _
 | k + 1 => Nat.max_le.2 ⟨leftN_le ss k, List.count_le_length⟩
set_option maxHeartbeats 4000000 in
theorem LeftR_ok (m : MachP) (M : MOK m) (l : List Int) (hl : l.length < 2 ^ 20) (hf : ∀ f ∈ l, -1 ≤ f ∧ f < (faultsM m).length) (a : HandP) (H : HOK m a) (AB AQ AL AW NA HA OA : Option Addr) (cB cQ cL cW cN cH cO : Nat) (hcQ : m.pins.length ≤ cQ) (hcL : m.links.length ≤ cL) (h : AH) (RM : MachR h AB AQ AL AW m) (RN : Row h 1 intC NA l) (RH : HandR h HA OA a) :
  FnT Tryz.prog 54 #[machV AB AQ AL AW cB cQ cL cW m, .slice NA l.length cN, handV HA OA cH cO a] h (fun v _ => v = .int .i64 (leftN (aloneL m l a) l.length : Nat)) := by
 obtain ⟨ss, hss⟩ : ∃ ss, ss = aloneL m l a := ⟨_, rfl⟩
 have hsl : ss.length = l.length := by rw [hss, aloneL, List.length_map]
 have hs6 : ∀ x ∈ ss, x < 2 ^ 6 := fun x hx => by
  rw [hss, aloneL] at hx
  obtain ⟨f, _, rfl⟩ := List.mem_map.1 hx
  exact alone_lt M f a
 have hsa : ∀ k (hk : k < l.length), ss[k]'(by omega) = aloneM m l[k] a := fun k hk => by simp [hss, aloneL]
 rw [← hss]
 refine wM Tryz.func54 rfl Tryz.ntmps54 rfl ?_
 refine qE ?_
 refine qB rfl ?_
 refine zG (v := .agg #[.int .i64 _, .int .i64 _, .int .i64 _, .int .i64 _, .int .i64 _, .slice _ _ _, .slice _ _ _, .slice _ _ _, .slice _ _ _]) (cs := [_, _, _, _, _, _, _, _, _]) rfl rfl fun b3 hb3 => ?_
 refine qL [_] rfl ?_
 refine zG (v := .agg #[.slice _ _ _, .slice _ _ _]) (cs := [_, _]) rfl rfl fun b5 hb5 => ?_
 refine qL [_, _] rfl ?_
 refine qA (qD (v := .int .i64 _) rfl) ?_
 refine qE ?_
 refine qB rfl ?_
 refine qA (qD (v := .int .i64 _) rfl) ?_
 refine goes_more ?_
 refine qT [_, _, _] rfl ?_
 refine qE ?_
 refine qB rfl ?_
 refine qA (qD (v := .slice _ _ _) rfl) ?_
 refine qE ?_
 refine qE ?_
 refine qB rfl ?_
 refine qA (qD (v := .int .i64 _) rfl) ?_
 refine qQ ?_
 refine zH [8, 9, 13, 14, 15, 16, 17, 18, 19, 20, 21, 22, 23, 24, 25, 26, 27, 28] 3 (α := Nat × Acc × List (List Value)) (fun ⟨k, ac, cs⟩ => [(9, .int .i64 k), (8, .slice ac.A ac.n ac.c)]) (fun ⟨k, ac, cs⟩ L => L.set 2 (ac.p)) (fun ⟨k, ac, cs⟩ h_k => k ≤ l.length ∧ AccR 22 1 (cs.flatMap id) ac ∧ Els h_k TL ((ss.take k).map fun x => listN x 6) cs ∧ ∀ x ∈ cs, x.length = 1) (fun ⟨k, ac, cs⟩ => l.length - k) ((0, acc0, [])) ⟨rfl, rfl, trivial⟩ (rfl) (⟨Nat.zero_le _, accR0, Els.nil _ _, fun _ hx => absurd hx List.not_mem_nil⟩) ?_
 rintro ⟨k, ac, cs⟩ T1 h_k E_k J_k
 refine qT [_, _, _] rfl ?_
 obtain ⟨J1, J2, J3, J4⟩ := J_k
 refine qE ?_
 refine qE ?_
 refine qB rfl ?_
 refine qA (qC (v := .int .i64 _) rfl) ?_
 refine qA (qC (v := .slice _ _ _) rfl) ?_
 refine qA (wK rfl rfl) ?_
 refine qA (qN (v := .bool _) rfl) ?_
 refine qU rfl (fun hk => ?_) (fun hk => ?_)
 ·skip
  have hkl : k < l.length := ltI hk
  have hks : k < ss.length := by omega
  have hfk := hf _ (List.getElem_mem hkl)
  have hcl : (cs.flatMap id).length = k := by rw [wN (enc := id) (m := 1) J4, J3.1]; simp; omega
  obtain ⟨g, off, hA, hc⟩ := (RN.ext E_k).at (by omega) hkl
  refine qR ?_
  refine qE ?_
  refine qQ ?_
  refine xp_dw [] rfl rfl rfl ?_
  refine qI (i := 0) rfl (by decide +kernel) (qC (v := .slice _ _ _) rfl) ?_
  refine wH (i := 1) rfl (by decide +kernel) ?_
  refine qY 0 (vs := [.int .i64 _, .int .i64 _, .int .i64 _, .int .i64 _, .int .i64 _, .slice _ _ _, .slice _ _ _, .slice _ _ _, .slice _ _ _]) rfl rfl rfl rfl rfl ?_
  refine qI (i := 2) rfl (by decide +kernel) (qC (v := .slice _ _ _) rfl) ?_
  refine qI (i := 3) rfl (by decide +kernel) (qC (v := .int .i64 _) rfl) ?_
  refine qI (i := 4) rfl (by decide +kernel) (wG rfl hA rfl rfl rfl (by omega) (by omega)) ?_
  refine wH (i := 5) rfl (by decide +kernel) ?_
  refine wS (v := .int .i64 _) rfl rfl ((hc) 0 _ rfl) ?_
  refine wH (i := 6) rfl (by decide +kernel) ?_
  refine qY 1 (vs := [.slice _ _ _, .slice _ _ _]) rfl rfl rfl rfl rfl ?_
  refine zA (i := 7) rfl (by decide +kernel) (by decide +kernel) ?_
  refine wJ (caps := []) (vs := [.agg _, .int .i64 _, .agg _]) rfl rfl rfl (toldR_ok m M l[k] hfk a H AB AQ AL AW HA OA cB cQ cL cW cH cO hcQ hcL h_k (RM.ext E_k) (RH.ext E_k)) ?_
  rintro _ h4 E4 ⟨A4, c4, rfl, S4⟩
  refine zA (i := 8) rfl (by decide +kernel) (by decide +kernel) ?_
  refine wA (zc := [_]) (vs := [(0, .slice _ _ _)]) (cs := [_]) rfl rfl rfl rfl rfl rfl rfl fun b27 hb27 => ?_
  refine wY [_, _, _, _] rfl ?_
  refine zA (i := 9) rfl (by decide +kernel) (by decide +kernel) ?_
  refine wZ 2 J2 rfl rfl rfl (fun V => rdP V (i := 3) rfl) rfl rfl rfl rfl rfl rfl rfl rfl rfl (by omega) rfl (by rw [hcl]; simp; omega) fun a4 h2a E2a ha4 => ?_
  refine wY [_, _, _, _] rfl ?_
  refine qI (i := 10) rfl (by decide +kernel) (qD (v := .slice _ _ _) rfl) ?_
  refine zN rfl ?_
  refine qB rfl ?_
  refine qA (qC (v := .int .i64 _) rfl) ?_
  refine qA (qS rfl (by omega)) ?_
  refine qA (qD (v := .int .i64 _) rfl) ?_
  refine ⟨(k + 1, a4, cs ++ [[.slice A4 (listN (aloneM m l[k] a) 6).length c4]]), ⟨rfl, rfl, trivial⟩, rfl, rfl, (zT (zT E_k E4) E2a), fun h3 E3 => ⟨hkl, by rw [List.flatMap_append]; exact ha4, by rw [take_snoc hks, List.map_append, List.map_cons, List.map_nil, hsa k hkl]; exact ((J3.ext TL.mono (zT E4 E2a)).snoc ⟨_, rfl, A4, c4, rfl, S4.ext E2a⟩).ext TL.mono E3, one_len J4 rfl⟩, by first | omega | (dsimp only; omega), ?_⟩
  repeat (first | exact qW _ _ _ | refine wD (by decide) ?_ | refine qV rfl ?_ | refine wE rfl ?_)
 ·skip
  have hke : k = l.length := by have := geI hk; omega
  subst hke
  rw [← hsl, List.take_length] at J3
  obtain ⟨p8, A8, n8, c8⟩ := ac
  obtain rfl : n8 = ss.length := by have := AccR.len J2; rw [wN (enc := id) (m := 1) J4, J3.1, List.length_map] at this; dsimp only at this; omega
  dsimp only at *
  refine goes_pubO 2 rfl ?_
  intro g8 G8 P8
  refine qT [_, _, _] rfl ?_
  have RU : Row g8 1 id A8 cs := ⟨J4, AccR.rd J2 P8⟩
  have EU := J3.ext TL.mono G8
  have hat : ∀ {h' : AH} (X : Ext g8 h') i (hi : i < ss.length), ∃ g off cX XA, A8 = some ⟨g, off, none⟩ ∧ Cells h' g (off + i * 1) [.slice XA (listN ss[i] 6).length cX] ∧ Row h' 1 intC XA (listN ss[i] 6) := fun X i hi => by
   obtain ⟨hic, y0, e0, XA, cX, rfl, RX⟩ := (EU.ext TL.mono X).at (i := i) (by rw [List.length_map]; exact hi)
   obtain ⟨g, off, hA, hc⟩ := (RU.ext X).at (by omega) hic
   rw [List.getElem_map] at e0 RX
   exact ⟨g, off, cX, XA, hA, by rw [← e0]; exact hc, RX⟩
  refine wV ?_
  refine qE ?_
  refine qE ?_
  refine qB rfl ?_
  refine qA (qD (v := .int .i64 _) rfl) ?_
  refine qQ ?_
  refine zP [7, 10, 11, 12, 29, 30, 31, 32, 33, 34, 35, 36, 37, 38, 39, 40, 41, 42, 43, 44, 45, 46, 47, 48, 49, 50, 51, 52, 53, 54] 3 (α := Nat) (fun i => [(10, .int .i64 i), (7, .int .i64 (leftN ss i : Nat))]) (fun i => _) (fun i h_i => i ≤ ss.length) (fun i => ss.length - i) (0) ⟨rfl, rfl, trivial⟩ (rfl) (Nat.zero_le _) ?_
  rintro i T3 h_i E_i J_i
  refine qT [_, _, _] rfl ?_
  refine qE ?_
  refine qE ?_
  refine qB rfl ?_
  refine qA (qC (v := .int .i64 _) rfl) ?_
  refine qA (qC (v := .slice _ _ _) rfl) ?_
  refine qA (wK rfl rfl) ?_
  refine qA (qN (v := .bool _) rfl) ?_
  refine qU rfl (fun hi => ?_) (fun hi => ?_)
  ·skip
   have hil : i < ss.length := ltI hi
   refine qR ?_
   refine qE ?_
   refine qQ ?_
   refine qE ?_
   refine qB rfl ?_
   refine qA (qD (v := .int .i64 _) rfl) ?_
   refine qE ?_
   refine qE ?_
   refine qB rfl ?_
   refine qA (qD (v := .int .i64 _) rfl) ?_
   refine qQ ?_
   refine zP [11, 12, 35, 36, 37, 38, 39, 40, 41, 42, 43, 44, 45, 46, 47, 48, 49, 50, 51] 3 (α := Nat) (fun q => [(12, .int .i64 q), (11, .int .i64 ((ss.take q).count ss[i] : Nat))]) (fun q => _) (fun q h_q => q ≤ ss.length) (fun q => ss.length - q) (0) ⟨rfl, rfl, trivial⟩ (rfl) (Nat.zero_le _) ?_
   rintro q T4 h_q E_q J_q
   refine qT [_, _, _] rfl ?_
   refine qE ?_
   refine qE ?_
   refine qB rfl ?_
   refine qA (qC (v := .int .i64 _) rfl) ?_
   refine qA (qC (v := .slice _ _ _) rfl) ?_
   refine qA (wK rfl rfl) ?_
   refine qA (qN (v := .bool _) rfl) ?_
   refine qU rfl (fun hq => ?_) (fun hq => ?_)
   ·skip
    have hql : q < ss.length := ltI hq
    have hct := count_take (v := ss[i]) hql
    have hcq : (ss.take q).count ss[i] ≤ q := Nat.le_trans List.count_le_length (by simp; omega)
    obtain ⟨g, off, cX, XA, hA, hc, RX⟩ := hat (zT E_i E_q) i hil
    obtain ⟨g2, off2, cY, YA, hA2, hc2, RY⟩ := hat (zT E_i E_q) q hql
    have hli := listN_len ss[i] 6
    have hlq := listN_len ss[q] 6
    refine qR ?_
    refine qE ?_
    refine qQ ?_
    refine qE ?_
    refine xp_dw [] rfl rfl rfl ?_
    refine qI (i := 0) rfl (by decide +kernel) (qC (v := .slice _ _ _) rfl) ?_
    refine qI (i := 1) rfl (by decide +kernel) (qC (v := .int .i64 _) rfl) ?_
    refine qI (i := 2) rfl (by decide +kernel) (wG (m := 1) rfl hA rfl rfl rfl (by omega) (by omega)) ?_
    refine wH (i := 3) rfl (by decide +kernel) ?_
    refine wS (v := .slice _ _ _) rfl rfl ((hc) 0 _ rfl) ?_
    refine qI (i := 4) rfl (by decide +kernel) (qC (v := .slice _ _ _) rfl) ?_
    refine qI (i := 5) rfl (by decide +kernel) (qC (v := .int .i64 _) rfl) ?_
    refine qI (i := 6) rfl (by decide +kernel) (wG (m := 1) rfl hA2 rfl rfl rfl (by omega) (by omega)) ?_
    refine wH (i := 7) rfl (by decide +kernel) ?_
    refine wS (v := .slice _ _ _) rfl rfl ((hc2) 0 _ rfl) ?_
    refine zA (i := 8) rfl (by decide +kernel) (by decide +kernel) ?_
    refine wJ (caps := []) (vs := [.slice _ _ _, .slice _ _ _]) rfl rfl rfl (sameR_ok (listN ss[i] 6) (listN ss[q] 6) _ _ _ _ h_q RX RY (by omega) (by omega)) ?_
    rintro _ h5 E5 rfl
    refine zN rfl ?_
    refine qU rfl (fun hs => ?_) (fun hs => ?_)
    ·skip
     have hs' : ss[q] = ss[i] := ((listN_inj (hs6 _ (List.getElem_mem hil)) (hs6 _ (List.getElem_mem hql))).1 (of_decide_eq_true hs)).symm
     rw [if_pos hs'] at hct
     refine qB rfl ?_
     refine qA (qC (v := .int .i64 _) rfl) ?_
     refine qA (qS rfl (by omega)) ?_
     refine qA (qD (v := .int .i64 _) rfl) ?_
     refine qB rfl ?_
     refine qA (qC (v := .int .i64 _) rfl) ?_
     refine qA (qS rfl (by omega)) ?_
     refine qA (qD (v := .int .i64 _) rfl) ?_
     refine ⟨q + 1, ⟨rfl, intE (by rw [hct]; omega), trivial⟩, rfl, rfl, (zT E_q E5), fun h3 E3 => hql, by first | omega | (dsimp only; omega), ?_⟩
     repeat (first | exact qW _ _ _ | refine wD (by decide) ?_ | refine qV rfl ?_ | refine wE rfl ?_)
    ·skip
     have hs' : ¬ ss[q] = ss[i] := fun e => of_decide_eq_false hs (by rw [e])
     rw [if_neg hs'] at hct
     refine qR ?_
     refine qB rfl ?_
     refine qA (qC (v := .int .i64 _) rfl) ?_
     refine qA (qS rfl (by omega)) ?_
     refine qA (qD (v := .int .i64 _) rfl) ?_
     refine ⟨q + 1, ⟨rfl, intE (by rw [hct]; omega), trivial⟩, rfl, rfl, (zT E_q E5), fun h3 E3 => hql, by first | omega | (dsimp only; omega), ?_⟩
     repeat (first | exact qW _ _ _ | refine wD (by decide) ?_ | refine qV rfl ?_ | refine wE rfl ?_)
   ·skip
    have hqe : q = ss.length := by have := geI hq; omega
    subst hqe
    rw [List.take_length]
    have hle := leftN_le ss i
    refine wV ?_
    refine qB rfl ?_
    refine qA (qC (v := .int .i64 _) rfl) ?_
    refine qA (qC (v := .int .i64 _) rfl) ?_
    refine qA (pv_max rfl rfl) ?_
    refine qA (qD (v := .int .i64 _) rfl) ?_
    refine qB rfl ?_
    refine qA (qC (v := .int .i64 _) rfl) ?_
    refine qA (qS rfl (by omega)) ?_
    refine qA (qD (v := .int .i64 _) rfl) ?_
    refine ⟨i + 1, ⟨rfl, intE (by rw [leftN, List.getD_eq_getElem?_getD, List.getElem?_eq_getElem hil, Option.getD_some]; omega), trivial⟩, rfl, rfl, (zT E_i E_q), fun h3 E3 => hil, by first | omega | (dsimp only; omega), ?_⟩
    repeat (first | exact qW _ _ _ | refine wD (by decide) ?_ | refine qV rfl ?_ | refine wE rfl ?_)
  ·skip
   have hie : i = ss.length := by have := geI hi; omega
   subst hie
   refine wV ?_
   refine qE ?_
   refine qB rfl ?_
   refine qA (qC (v := .int .i64 _) rfl) ?_
   refine qA (qD (v := .int .i64 _) rfl) ?_
   refine qZ ?_
   refine qP (vs := [_]) Tryz.results54 ⟨qM rfl rfl, trivial⟩ fun V => ?_
   exact ⟨(zT (zT (zT E_k G8) E_i) (qX V)), intE (by rw [hsl])⟩
theorem heardOf_ok (b x : Nat) (m : MachP) (M : MOK m) (l : List Int) (S : SetOK l (faultsM m).length) (most : Int) (hm : 0 ≤ most ∧ most ≤ 5) (AB AQ AL AW NA : Option Addr) (cB cQ cL cW cN : Nat) (hcQ : m.pins.length ≤ cQ) (hcL : m.links.length ≤ cL) (h : AH) (RM : MachR h AB AQ AL AW m) (RN : Row h 1 intC NA l) :
  FnM Tryz.prog (.func (.func 9) #[] ([] : List Value).toArray) [.pointer (some ⟨b, 0, none⟩), machV AB AQ AL AW cB cQ cL cW m, .slice NA l.length cN, .int .i64 most] h [some (b, .cells #[.int .u64 (x : Int)] 67 (0, 0))]
  (fun v h' M' => ∃ (x' : Nat) (hs : List HeardP), M' = [some (b, .cells #[.int .u64 (x' : Int)] 67 (0, 0))] ∧ SlX h' 3 TU hs v ∧ (hs.length : Int) ≤ most ∧ ∀ x ∈ hs, HOK m x.hand ∧ x.sounds = listN (soundsB m (pickL m l) x.hand) 6) := by
 have mbl := M.bl
 have mrg := M.regs
 refine fnM_body rfl rfl Tryz.func9 rfl Tryz.ntmps9 rfl ?_
 refine qE ?_
 refine qB rfl ?_
 refine zG (v := .agg #[.int .i64 _, .int .i64 _, .int .i64 _, .int .i64 _, .int .i64 _, .slice _ _ _, .slice _ _ _, .slice _ _ _, .slice _ _ _]) (cs := [_, _, _, _, _, _, _, _, _]) rfl rfl fun b5 hb5 => ?_
 refine qL [_, _] rfl ?_
 refine qA (qD (v := .slice _ _ _) rfl) ?_
 refine goes_more ?_
 refine qT [_, _, _] rfl ?_
 refine qE ?_
 refine qB rfl ?_
 refine qA (qD (v := .slice _ _ _) rfl) ?_
 refine qE ?_
 refine qE ?_
 refine qB rfl ?_
 refine qA (qC (v := .pointer (some ⟨b, 0, none⟩)) rfl) ?_
 refine qA (qC (v := .int .i64 _) rfl) ?_
 refine op_fnMM [] [_] [_, _] (vs := [.pointer _, .int .i64 _]) rfl rfl rfl ((Upto_ok b x most (by omega) h)) ?_
 rintro _ h3 _ E13 ⟨x3, i0, rfl, rfl, i01, i02⟩
 refine qL [_, _, _] rfl ?_
 refine qA (qD (v := .int .i64 _) rfl) ?_
 refine qQ ?_
 refine zH [9, 10, 11, 12, 13, 17, 18, 19, 20, 21, 22, 23, 24, 25, 26, 27, 28, 29, 30, 31, 32, 33, 34, 35, 36] 3 (α := Int × Nat × List HeardP × Acc × List (List Value)) (fun ⟨i, y, hs, a, cs⟩ => [(10, .int .i64 i), (9, .slice a.A a.n a.c)]) (fun ⟨i, y, hs, a, cs⟩ L => (L.set 0 (some (b, .cells #[.int .u64 (y : Int)] 67 (0, 0)))).set 2 (a.p)) (fun ⟨i, y, hs, a, cs⟩ h_i => (0 ≤ i ∧ i + hs.length ≤ most) ∧ (∀ x ∈ hs, HOK m x.hand ∧ x.sounds = listN (soundsB m (pickL m l) x.hand) 6) ∧ AccR 31 3 (cs.flatMap id) a ∧ Els h_i TU hs cs ∧ ∀ x ∈ cs, x.length = 3) (fun ⟨i, y, hs, a, cs⟩ => i.toNat) ((i0, x3, [], acc0, [])) ⟨rfl, rfl, trivial⟩ (rfl) (⟨⟨by omega, by simp; omega⟩, fun _ hx => absurd hx List.not_mem_nil, accR0, Els.nil _ _, fun _ hx => absurd hx List.not_mem_nil⟩) ?_
 rintro ⟨i, y, hs, a, cs⟩ T1 h_i E_i J_i
 refine qT [_, _, _] rfl ?_
 obtain ⟨⟨K1, K2⟩, K3, K4, K5, K6⟩ := J_i
 refine qE ?_
 refine qE ?_
 refine qB rfl ?_
 refine qA (qC (v := .int .i64 _) rfl) ?_
 refine qA (qN (v := .bool _) rfl) ?_
 refine qU rfl (fun hi => ?_) (fun hi => ?_)
 ·skip
  have hi0 : 0 < i := of_decide_eq_true hi
  refine qR ?_
  refine qE ?_
  refine qQ ?_
  refine qE ?_
  refine qB rfl ?_
  refine qA (qC (v := .pointer (some ⟨b, 0, none⟩)) rfl) ?_
  refine qY 1 (vs := [.int .i64 _, .int .i64 _, .int .i64 _, .int .i64 _, .int .i64 _, .slice _ _ _, .slice _ _ _, .slice _ _ _, .slice _ _ _]) rfl rfl rfl rfl rfl ?_
  refine op_fnMM [] [_] [_, _] (vs := _) rfl rfl rfl ((HandOf_ok b y m (by omega) (by omega) AB AQ AL AW cB cQ cL cW h_i)) ?_
  rintro _ h6 _ E6 ⟨y2, a1, rfl, VH, H⟩
  refine qL [_, _, _] rfl ?_
  obtain ⟨HA, OA, cH, cO, rfl, RH⟩ := VH.open
  refine zF (cs := [_, _]) rfl rfl fun b11 hb11 => ?_
  refine qL [_, _, _, _] rfl ?_
  refine wI 3 (v := .agg #[.slice _ _ _, .slice _ _ _]) (vs := [_, _]) (c' := [_, _]) rfl rfl rfl rfl rfl rfl rfl rfl rfl ?_
  refine qL [_, _, _, _] rfl ?_
  refine qE ?_
  refine qB rfl ?_
  refine qY 1 (vs := [.int .i64 _, .int .i64 _, .int .i64 _, .int .i64 _, .int .i64 _, .slice _ _ _, .slice _ _ _, .slice _ _ _, .slice _ _ _]) rfl rfl rfl rfl rfl ?_
  refine qA (qC (v := .slice _ _ _) rfl) ?_
  refine qY 3 (vs := [.slice _ _ _, .slice _ _ _]) rfl rfl rfl rfl rfl ?_
  refine wJ (caps := []) (vs := [.agg _, .slice _ _ _, .agg _]) rfl rfl rfl (BrokenR_ok m M l S a1 H AB AQ AL AW NA HA OA cB cQ cL cW cN cH cO hcQ hcL h6 (RM.ext (zT (zT E13 E_i) E6)) (RN.ext (zT (zT E13 E_i) E6)) (RH.ext (Ext.refl _))) ?_
  rintro _ h7 E7 ⟨_, rfl, A7, c7, rfl, S7⟩
  refine qA (qC (v := .tuple #[.slice _ _ _, .int .i64 _]) rfl) ?_
  refine qA (qN (v := .slice _ _ _) rfl) ?_
  refine qA (qN (v := .int .i64 _) rfl) ?_
  refine qA (qD (v := .slice _ _ _) rfl) ?_
  refine qA (qD (v := .int .i64 _) rfl) ?_
  refine qB rfl ?_
  refine qA (qC (v := .slice _ _ _) rfl) ?_
  refine qY 3 (vs := [.slice _ _ _, .slice _ _ _]) rfl rfl rfl rfl rfl ?_
  refine qA (qC (v := .slice _ _ _) rfl) ?_
  refine qA (pv_build (zc := [_, _, _]) (vs := [(0, .agg #[.slice _ _ _, .slice _ _ _]), (1, .slice _ _ _)]) (cs := [_, _, _]) rfl rfl rfl rfl rfl rfl) ?_
  refine wA (zc := [_, _, _]) (vs := [(0, .agg #[.slice _ _ _, .slice _ _ _, .slice _ _ _])]) (cs := [_, _, _]) rfl rfl rfl rfl rfl rfl rfl fun b35 hb35 => ?_
  refine qL [_, _, _, _, _] rfl ?_
  refine wZ 2 K4 rfl rfl rfl (fun V => rdP V (i := 4) rfl) rfl rfl rfl rfl rfl rfl rfl rfl rfl (by omega) rfl (by rw [wN (enc := id) (m := 3) K6, K5.1]; simp; omega) fun a2 h2a E2a ha2 => ?_
  refine qL [_, _, _, _, _] rfl ?_
  refine qA (qD (v := .slice _ _ _) rfl) ?_
  refine qB rfl ?_
  refine qA (qC (v := .int .i64 _) rfl) ?_
  refine qA (qS rfl (by omega)) ?_
  refine qA (qD (v := .int .i64 _) rfl) ?_
  refine ⟨(i - 1, y2, hs ++ [⟨a1, listN (soundsB m (pickL m l) a1) 6⟩], a2, cs ++ [[.slice HA a1.buttons.length cH, .slice OA a1.on.length cO, .slice A7 (listN (soundsB m (pickL m l) a1) 6).length c7]]), ⟨rfl, rfl, trivial⟩, rfl, rfl, (zT (zT (zT E_i E6) E7) E2a), fun h3 E3 => ⟨⟨by omega, by simp; omega⟩, mem_one K3 ⟨H, rfl⟩, by rw [List.flatMap_append]; exact ha2, (Els.snoc (K5.ext TU.mono (zT (zT E6 E7) E2a)) (tu_of (RH.ext (zT E7 E2a)) (S7.ext E2a))).ext TU.mono E3, three_len K6 rfl⟩, by first | omega | (dsimp only; omega), ?_⟩
  repeat (first | exact qW _ _ _ | refine wD (by decide) ?_ | refine qV rfl ?_ | refine wE rfl ?_)
 ·skip
  obtain ⟨p8, A8, n8, c8⟩ := a
  obtain rfl : n8 = hs.length := by have := AccR.len K4; rw [wN (enc := id) (m := 3) K6, K5.1] at this; dsimp only at this; omega
  dsimp only at *
  refine goes_pubO 2 rfl ?_
  intro g8 G8 P8
  refine qT [_, _, _] rfl ?_
  have RU : Row g8 3 id A8 cs := ⟨K6, AccR.rd K4 P8⟩
  have EU : Els g8 TU hs cs := K5.ext TU.mono G8
  refine wV ?_
  refine qE ?_
  refine qB rfl ?_
  refine qA (qC (v := .slice _ _ _) rfl) ?_
  refine qA (qD (v := .slice _ _ _) rfl) ?_
  refine qZ ?_
  refine qP (vs := [_]) Tryz.results9 ⟨qM rfl rfl, trivial⟩ fun V => ?_
  obtain ⟨h9, E9, e9, V9⟩ := wl_drop [_, _] [_] V
  exact ⟨h9, _, e9, V9, zT (zT (zT E13 E_i) G8) E9, y, hs, rfl, SlX.of (RU.ext E9) (EU.ext TU.mono E9) rfl, by omega, K3⟩
end
end Go.Proofs.YthphpbdmbmiaiaaGreat
namespace Go.Proofs.YthphpbdmbmiaiaaGreat
open Go Go.HL Go.Proofs Go.Wx Go.Rd
section
variable [Lvl]
set_option maxRecDepth 100000
theorem Ints_ok (l : List Int) (A : Option Addr) (c : Nat) (h : AH) (R : Row h 1 intC A l) (hl : l.length < 2 ^ 20) :
  FnT Tryz.prog 40 #[.slice A l.length c] h (fun v h' => SlR h' 1 intC l v) := by
 refine wM Tryz.func40 rfl Tryz.ntmps40 rfl ?_
 refine qE ?_
 refine qB rfl ?_
 refine qA (qD (v := .slice _ _ _) rfl) ?_
 refine qE ?_
 refine qB rfl ?_
 refine wA (zc := [_]) (vs := []) (cs := []) rfl rfl rfl rfl rfl rfl rfl fun b3 hb3 => ?_
 refine qL [_] rfl ?_
 refine qA (qC (v := .slice _ _ _) rfl) ?_
 refine wZ 0 accR_new rfl rfl rfl (fun V => R.2.ext (zT (Ext.refl _) (qX V))) (wN R.1) (flat_plain intP2 l) rfl rfl rfl rfl rfl rfl rfl (by omega) rfl (by rw [wN R.1, List.length_nil]; omega) fun a0 h1a E1a ha0 => ?_
 refine qL [_] rfl ?_
 refine qA (qD (v := .slice _ _ _) rfl) ?_
 refine qZ ?_
 refine qP (vs := [_]) Tryz.results40 ⟨qM rfl rfl, trivial⟩ fun V => ?_
 exact ⟨(zT E1a (qX V)), AccP.row (i := 0) ha0 (by omega) (fun _ _ => rfl) V rfl⟩
theorem CopyHand_ok (a : HandP) (HA OA : Option Addr) (cH cO : Nat) (h : AH) (RH : HandR h HA OA a) (h1 : a.buttons.length < 2 ^ 20) (h2 : a.on.length < 2 ^ 20) :
  FnT Tryz.prog 39 #[handV HA OA cH cO a] h (fun v h' => HandV h' a v) := by
 refine wM Tryz.func39 rfl Tryz.ntmps39 rfl ?_
 refine qE ?_
 refine qB rfl ?_
 refine zG (v := .agg #[.slice _ _ _, .slice _ _ _]) (cs := [_, _]) rfl rfl fun b1 hb1 => ?_
 refine qL [_] rfl ?_
 refine zF (cs := [_, _]) rfl rfl fun b2 hb2 => ?_
 refine qL [_, _] rfl ?_
 refine qE ?_
 refine xp_dw [] rfl rfl rfl ?_
 refine qI (i := 0) rfl (by decide +kernel) (qF rfl rfl rfl rfl 0 rfl) ?_
 refine wH (i := 1) rfl (by decide +kernel) ?_
 refine qJ 0 (v := .slice _ _ _) rfl rfl rfl rfl ?_
 refine qI (i := 3) rfl (by decide +kernel) (qF rfl rfl rfl rfl 1 rfl) ?_
 refine wH (i := 4) rfl (by decide +kernel) ?_
 refine qJ 0 (v := .slice _ _ _) rfl rfl rfl rfl ?_
 refine dw_eff (i := 2) rfl (by decide +kernel) ?_
 refine wJ (caps := []) (vs := [.slice _ _ _]) rfl rfl rfl (Ints_ok a.buttons HA cH h (RH.b.ext (Ext.refl _)) h1) ?_
 rintro _ h3 E13 ⟨A3, c3, rfl, R3⟩
 refine ⟨ext_wlm E13 _, ?_⟩
 refine zA (i := 5) rfl (by decide +kernel) (by decide +kernel) ?_
 refine wJ (caps := []) (vs := [.slice _ _ _]) rfl rfl rfl (Ints_ok a.on OA cO h3 (RH.o.ext E13) h2) ?_
 rintro _ h4 E4 ⟨A4, c4, rfl, R4⟩
 refine qI (i := 6) rfl (by decide +kernel) (pv_build (zc := [_, _]) (vs := [(0, .slice _ _ _), (1, .slice _ _ _)]) (cs := [_, _]) rfl rfl rfl rfl rfl rfl) ?_
 refine zA (i := 7) rfl (by decide +kernel) (by decide +kernel) ?_
 refine wI 1 (v := .agg #[.slice _ _ _, .slice _ _ _]) (vs := [_, _]) (c' := [_, _]) rfl rfl rfl rfl rfl rfl rfl rfl rfl ?_
 refine wY [_, _] rfl ?_
 refine zN rfl ?_
 refine qZ ?_
 refine qP (vs := [_]) Tryz.results39 ⟨resV_agg 1 rfl rfl rfl rfl rfl (vs := [.slice _ _ _, .slice _ _ _]) rfl, trivial⟩ fun V => ?_
 exact ⟨(zT (zT E13 E4) (qX V)), _, _, rfl, ⟨A3, c3, rfl, (R3.ext E4).ext (qX V)⟩, ⟨A4, c4, rfl, R4.ext (qX V)⟩⟩
set_option maxHeartbeats 2000000 in
theorem CopyHeard_okM (hs : List HeardP) (hl : hs.length < 2 ^ 10) (hx : ∀ x ∈ hs, x.hand.buttons.length < 2 ^ 20 ∧ x.hand.on.length < 2 ^ 20 ∧ x.sounds.length < 2 ^ 20) (A : Option Addr) (c : Nat) (cs0 : List (List Value)) (h : AH) (R : Row h 3 id A cs0) (EL : Els h TU hs cs0) :
  FnM Tryz.prog (.func (.func 11) #[] ([] : List Value).toArray) [.slice A hs.length c] h [] (fun v h' M' => ∃ (a : Acc) (cs : List (List Value)), M' = [a.p] ∧ v = .slice a.A a.n a.c ∧ AccR 31 3 (cs.flatMap id) a ∧ Els h' TU hs cs ∧ ∀ x ∈ cs, x.length = 3) := by
 refine fnM_body rfl rfl Tryz.func11 rfl Tryz.ntmps11 rfl ?_
 refine qE ?_
 refine qB rfl ?_
 refine qA (qD (v := .slice _ _ _) rfl) ?_
 refine goes_more ?_
 refine qT [_] rfl ?_
 refine qE ?_
 refine qB rfl ?_
 refine qA (qD (v := .slice _ _ _) rfl) ?_
 refine qE ?_
 refine qE ?_
 refine qB rfl ?_
 refine qA (qD (v := .int .i64 _) rfl) ?_
 refine qQ ?_
 refine zH [3, 4, 5, 6, 7, 8, 9, 10, 11, 12, 13, 14, 15, 16, 17, 18, 19, 20, 21, 22, 23, 24, 25, 26] 1 (α := Nat × Acc × List (List Value)) (fun ⟨k, a, cs⟩ => [(4, .int .i64 k), (3, .slice a.A a.n a.c)]) (fun ⟨k, a, cs⟩ L => L.set 0 (a.p)) (fun ⟨k, a, cs⟩ h_k => k ≤ hs.length ∧ AccR 31 3 (cs.flatMap id) a ∧ Els h_k TU (hs.take k) cs ∧ ∀ x ∈ cs, x.length = 3) (fun ⟨k, a, cs⟩ => hs.length - k) ((0, acc0, [])) ⟨rfl, rfl, trivial⟩ (rfl) (⟨Nat.zero_le _, accR0, Els.nil _ _, fun _ hx => absurd hx List.not_mem_nil⟩) ?_
 rintro ⟨k, a, cs⟩ T1 h_k E_k J_k
 refine qT [_] rfl ?_
 obtain ⟨K1, K4, K5, K6⟩ := J_k
 refine qE ?_
 refine qE ?_
 refine qB rfl ?_
 refine qA (qC (v := .int .i64 _) rfl) ?_
 refine qA (qC (v := .slice _ _ _) rfl) ?_
 refine qA (wK rfl rfl) ?_
 refine qA (qN (v := .bool _) rfl) ?_
 refine qU rfl (fun hk => ?_) (fun hk => ?_)
 ·skip
  have hkl : k < hs.length := ltI hk
  obtain ⟨x1, x2, x3⟩ := hx _ (List.getElem_mem hkl)
  obtain ⟨hkc, B0, O0, U0, e0, ⟨HA, cH, rfl, r1⟩, ⟨OA, cO, rfl, r2⟩, ⟨XA, cX, rfl, r3⟩⟩ := (EL.ext TU.mono E_k).at hkl
  obtain ⟨g, off, hA, hc⟩ := (R.ext E_k).at (by omega) hkc
  have hc : Cells h_k g (off + k * 3) [.slice HA hs[k].hand.buttons.length cH, .slice OA hs[k].hand.on.length cO, .slice XA hs[k].sounds.length cX] := by rw [← e0]; exact hc
  have hcl : (cs.flatMap id).length = k * 3 := by rw [wN (enc := id) (m := 3) K6, K5.1]; simp; omega
  refine qR ?_
  refine qE ?_
  refine qQ ?_
  refine xp_dw [] rfl rfl rfl ?_
  refine qI (i := 0) rfl (by decide +kernel) (qC (v := .slice _ _ _) rfl) ?_
  refine qI (i := 1) rfl (by decide +kernel) (qC (v := .slice _ _ _) rfl) ?_
  refine qI (i := 2) rfl (by decide +kernel) (qC (v := .int .i64 _) rfl) ?_
  refine qI (i := 3) rfl (by decide +kernel) (wG (m := 3) rfl hA rfl rfl rfl (by omega) (by omega)) ?_
  refine qI (i := 4) rfl (by decide +kernel) (qF rfl rfl rfl rfl _ rfl) ?_
  refine wH (i := 5) rfl (by decide +kernel) ?_
  refine zK rfl rfl rfl rfl (hc.part 0 2) ?_
  refine qI (i := 7) rfl (by decide +kernel) (qC (v := .slice _ _ _) rfl) ?_
  refine qI (i := 8) rfl (by decide +kernel) (qC (v := .int .i64 _) rfl) ?_
  refine qI (i := 9) rfl (by decide +kernel) (wG (m := 3) rfl hA rfl rfl rfl (by omega) (by omega)) ?_
  refine qI (i := 10) rfl (by decide +kernel) (qF rfl rfl rfl rfl _ rfl) ?_
  refine wH (i := 11) rfl (by decide +kernel) ?_
  refine wS (v := .slice _ _ _) rfl rfl (hc 2 _ rfl) ?_
  refine dw_eff (i := 6) rfl (by decide +kernel) ?_
  refine wJ (caps := []) (vs := [.agg _]) rfl rfl rfl (CopyHand_ok hs[k].hand HA OA cH cO h_k ⟨r1.ext (Ext.refl _), r2.ext (Ext.refl _)⟩ x1 x2) ?_
  rintro _ h3 E13 VH
  refine ⟨ext_wlm E13 _, ?_⟩
  obtain ⟨HA3, OA3, cH3, cO3, rfl, RH3⟩ := HandV.open VH
  refine zA (i := 12) rfl (by decide +kernel) (by decide +kernel) ?_
  refine wJ (caps := []) (vs := [.slice _ _ _]) rfl rfl rfl (Ints_ok hs[k].sounds XA cX h3 (r3.ext E13) x3) ?_
  rintro _ h4 E4 ⟨A4, c4, rfl, R4⟩
  refine qI (i := 13) rfl (by decide +kernel) (pv_build (zc := [_, _, _]) (vs := [(0, .agg #[.slice _ _ _, .slice _ _ _]), (1, .slice _ _ _)]) (cs := [_, _, _]) rfl rfl rfl rfl rfl rfl) ?_
  refine zA (i := 14) rfl (by decide +kernel) (by decide +kernel) ?_
  refine wA (zc := [_, _, _]) (vs := [(0, .agg #[.slice _ _ _, .slice _ _ _, .slice _ _ _])]) (cs := [_, _, _]) rfl rfl rfl rfl rfl rfl rfl fun b25 hb25 => ?_
  refine wY [_, _] rfl ?_
  refine zA (i := 15) rfl (by decide +kernel) (by decide +kernel) ?_
  refine wZ 0 K4 rfl rfl rfl (fun V => rdP V (i := 1) rfl) rfl rfl rfl rfl rfl rfl rfl rfl rfl (by omega) rfl (by rw [hcl]; simp; omega) fun a2 h2a E2a ha2 => ?_
  refine wY [_, _] rfl ?_
  refine qI (i := 16) rfl (by decide +kernel) (qD (v := .slice _ _ _) rfl) ?_
  refine zN rfl ?_
  refine qB rfl ?_
  refine qA (qC (v := .int .i64 _) rfl) ?_
  refine qA (qS rfl (by omega)) ?_
  refine qA (qD (v := .int .i64 _) rfl) ?_
  refine ⟨(k + 1, a2, cs ++ [[.slice HA3 hs[k].hand.buttons.length cH3, .slice OA3 hs[k].hand.on.length cO3, .slice A4 hs[k].sounds.length c4]]), ⟨rfl, rfl, trivial⟩, rfl, rfl, (zT (zT (zT E_k E13) E4) E2a), fun h3 E3 => ⟨hkl, by rw [List.flatMap_append]; exact ha2, by rw [take_snoc hkl]; exact (Els.snoc (K5.ext TU.mono (zT (zT E13 E4) E2a)) (tu_of (RH3.ext (zT E4 E2a)) (R4.ext E2a))).ext TU.mono E3, three_len K6 rfl⟩, by first | omega | (dsimp only; omega), ?_⟩
  repeat (first | exact qW _ _ _ | refine wD (by decide) ?_ | refine qV rfl ?_ | refine wE rfl ?_)
 ·skip
  have hke : k = hs.length := by have := geI hk; omega
  subst hke
  rw [List.take_length] at K5
  refine wV ?_
  refine qE ?_
  refine qB rfl ?_
  refine qA (qC (v := .slice _ _ _) rfl) ?_
  refine qA (qD (v := .slice _ _ _) rfl) ?_
  refine qZ ?_
  refine qP (vs := [_]) Tryz.results11 ⟨qM rfl rfl, trivial⟩ fun V => ?_
  exact ⟨_, [_], rfl, V, E_k, a, cs, rfl, rfl, K4, K5.ext TU.mono (Ext.refl _), K6⟩
theorem worst_ge {ss : List Nat} : ∀ k, k ≤ ss.length → ∀ v ∈ ss.take k, (ss.take k).count v ≤ worstN ss k
 | 0, _, v, h => by simp at h
 | k + 1, hk, v, h => by
  have hkl : k < ss.length := by omega
  have hct := count_take (ss := ss) (v := v) hkl
  have hg : ss.getD k 0 = ss[k] := by rw [List.getD_eq_getElem?_getD, List.getElem?_eq_getElem hkl]; rfl
  rw [worstN, hg]
  by_cases e : ss[k] = v
  ·rw [List.count_reverse, e]
   exact Nat.le_max_right _ _
  ·rw [if_neg e] at hct
   rw [take_snoc hkl, List.mem_append, List.mem_singleton] at h
   have h1 := worst_ge k (by omega) v (h.resolve_right fun x => e x.symm)
   rw [hct]
   exact Nat.le_trans h1 (Nat.le_max_left _ _)
theorem worst_le_left {ss : List Nat} : ∀ k, k ≤ ss.length → worstN ss k ≤ leftN ss k
 | 0, _ => Nat.le_refl _
 | k + 1, hk => by
  rw [worstN, leftN, List.count_reverse]
  refine Nat.max_le.2 ⟨Nat.le_trans (worst_le_left k (by omega)) (Nat.le_max_left _ _), Nat.le_trans ?_ (Nat.le_max_right _ _)⟩
  exact (List.take_sublist _ _).count_le _
theorem left_le_of {ss : List Nat} {z : Nat} (h : ∀ v ∈ ss, ss.count v ≤ z) : ∀ k, k ≤ ss.length → leftN ss k ≤ z
 | 0, _ => Nat.zero_le _
 | k + 1, hk => by
  have hkl : k < ss.length := by omega
  have hg : ss.getD k 0 = ss[k] := by rw [List.getD_eq_getElem?_getD, List.getElem?_eq_getElem hkl]; rfl
  rw [leftN, hg]
  exact Nat.max_le.2 ⟨left_le_of h k (by omega), h _ (List.getElem_mem hkl)⟩
theorem worst_left (ss : List Nat) : worstN ss ss.length = leftN ss ss.length :=
 Nat.le_antisymm (worst_le_left _ (Nat.le_refl _)) (left_le_of (fun v hv => by
  have := worst_ge (ss := ss) ss.length (Nat.le_refl _) v (by rw [List.take_length]; exact hv)
  rwa [List.take_length] at this) _ (Nat.le_refl _))
theorem snd_alone (m : MachP) (hs : List HeardP) (a : HandP) : sndL m (machL m hs) a = aloneL m (suspectsM m hs) a := by
 rw [sndL, machL, List.map_map]
 rfl
theorem worst_alone (m : MachP) (hs : List HeardP) (a : HandP) : worstN (sndL m (machL m hs) a) (machL m hs).length = leftN (aloneL m (suspectsM m hs) a) (suspectsM m hs).length := by
 have e : (machL m hs).length = (suspectsM m hs).length := by rw [machL, List.length_map]
 have e2 : (aloneL m (suspectsM m hs) a).length = (suspectsM m hs).length := by rw [aloneL, List.length_map]
 rw [snd_alone, e, ← e2]
 exact worst_left _
end
end Go.Proofs.YthphpbdmbmiaiaaGreat
namespace Go.Proofs.YthphpbdmbmiaiaaGreat
open Go Go.HL Go.Proofs Go.Wx Go.Rd
section
variable [Lvl]
set_option maxRecDepth 100000
end
end Go.Proofs.YthphpbdmbmiaiaaGreat
namespace Go.Proofs.YthphpbdmbmiaiaaGreat
open Go Go.HL Go.Proofs Go.Wx Go.Rd
section
variable [Lvl]
set_option maxRecDepth 100000
theorem row_two {h : AH} {b : Nat} {z y : Int} {e : TypeId} {f : Nat × Nat} (hb : h b = some (.cells #[.int .i64 z, .int .i64 y] e f)) : Row h 1 intC (some ⟨b, 0, none⟩) [z, y] :=
 ⟨fun _ _ => rfl, fun _ => ⟨b, 0, rfl, cellsB (cs := [.int .i64 z, .int .i64 y]) hb⟩⟩
theorem set_one {n : Int} {z : Int} (h : 0 ≤ z ∧ z < n) : SetOK [z] n := ⟨fun x hx => by simp at hx; omega, by simp⟩
theorem set_two {n : Int} {z y : Int} (h : 0 ≤ z ∧ z < n) (h' : 0 ≤ y ∧ y < n) (hne : z ≠ y) : SetOK [min z y, max z y] n := by
 refine ⟨fun x hx => ?_, ?_⟩
 ·simp at hx
  rcases hx with rfl | rfl <;> omega
 ·simp; omega
set_option maxHeartbeats 4000000 in
theorem faultsOf_ok (b x : Nat) (m : MachP) (M : MOK m) (AB AQ AL AW : Option Addr) (cB cQ cL cW : Nat) (h : AH) (RM : MachR h AB AQ AL AW m) :
  FnM Tryz.prog (.func (.func 10) #[] ([] : List Value).toArray) [.pointer (some ⟨b, 0, none⟩), machV AB AQ AL AW cB cQ cL cW m] h [some (b, .cells #[.int .u64 (x : Int)] 67 (0, 0))]
  (fun v h' M' => ∃ (x' : Nat) (ls : List Int), M' = [some (b, .cells #[.int .u64 (x' : Int)] 67 (0, 0))] ∧ SlR h' 1 intC ls v ∧ SetOK ls (faultsM m).length ∧ ls.length ≤ 2) := by
 have mlv := M.levers
 have mpl := M.pl
 have mll := M.ll
 have fln := faults_len m
 refine fnM_body rfl rfl Tryz.func10 rfl Tryz.ntmps10 rfl ?_
 refine qE ?_
 refine qB rfl ?_
 refine zG (v := .agg #[.int .i64 _, .int .i64 _, .int .i64 _, .int .i64 _, .int .i64 _, .slice _ _ _, .slice _ _ _, .slice _ _ _, .slice _ _ _]) (cs := [_, _, _, _, _, _, _, _, _]) rfl rfl fun b3 hb3 => ?_
 refine qL [_, _] rfl ?_
 refine qA (qD (v := .slice _ _ _) rfl) ?_
 refine qE ?_
 refine qB rfl ?_
 refine qY 1 (vs := [.int .i64 _, .int .i64 _, .int .i64 _, .int .i64 _, .int .i64 _, .slice _ _ _, .slice _ _ _, .slice _ _ _, .slice _ _ _]) rfl rfl rfl rfl rfl ?_
 refine wJ (caps := []) (vs := [.agg #[.int .i64 _, .int .i64 _, .int .i64 _, .int .i64 _, .int .i64 _, .slice _ _ _, .slice _ _ _, .slice _ _ _, .slice _ _ _]]) rfl rfl rfl (FaultsR_ok m M AB AQ AL AW cB cQ cL cW h (RM.ext (Ext.refl _))) ?_
 rintro _ h13 E13 ⟨_, rfl, A3, c3, rfl, S3⟩
 refine qA (qC (v := .tuple #[.slice _ _ _, .int .i64 _]) rfl) ?_
 refine qA (qN (v := .slice _ _ _) rfl) ?_
 refine qA (qN (v := .int .i64 _) rfl) ?_
 refine qA (qD (v := .slice _ _ _) rfl) ?_
 refine qA (qD (v := .int .i64 _) rfl) ?_
 refine qE ?_
 refine qB rfl ?_
 refine qA (qC (v := .pointer (some ⟨b, 0, none⟩)) rfl) ?_
 refine qA (qC (v := .slice _ _ _) rfl) ?_
 refine qA (wK rfl rfl) ?_
 refine qA (qS rfl (by omega)) ?_
 refine op_fnMM [] [_] [_] (vs := [.pointer _, .int .i64 _]) rfl rfl rfl ((Upto_ok b x ((faultsM m).length - 1) (by omega) h13)) ?_
 rintro _ h4 _ E4 ⟨x4, a, rfl, rfl, a1, a2⟩
 refine qL [_, _] rfl ?_
 refine qA (qC (v := .pointer (some ⟨b, 0, none⟩)) rfl) ?_
 refine qA (qC (v := .slice _ _ _) rfl) ?_
 refine qA (wK rfl rfl) ?_
 refine qA (qS rfl (by omega)) ?_
 refine op_fnMM [] [_] [_] (vs := [.pointer _, .int .i64 _]) rfl rfl rfl ((Upto_ok b x4 ((faultsM m).length - 1) (by omega) h4)) ?_
 rintro _ h5 _ E5 ⟨x5, d, rfl, rfl, d1, d2⟩
 refine qL [_, _] rfl ?_
 refine qA (qD (v := .int .i64 _) rfl) ?_
 refine qA (qD (v := .int .i64 _) rfl) ?_
 refine qE ?_
 refine qQ ?_
 refine qE ?_
 refine qB rfl ?_
 refine qA (qC (v := .pointer (some ⟨b, 0, none⟩)) rfl) ?_
 refine op_fnMM [] [_] [_] (vs := [.pointer _, .int .i64 _, .int .i64 _]) rfl rfl rfl ((Odds_ok b x5 1 4 (by omega) h5)) ?_
 rintro _ h6 _ E6 ⟨x6, u, rfl, rfl⟩
 refine qL [_, _] rfl ?_
 have ha : 0 ≤ a ∧ a < (faultsM m).length := by omega
 have hd : 0 ≤ d ∧ d < (faultsM m).length := by omega
 refine qA (qD (v := .bool _) rfl) ?_
 refine qU rfl (fun hu => ?_) (fun hu => ?_)
 ·skip
  refine qE ?_
  refine qB rfl ?_
  refine qA (qD (v := .slice _ _ _) rfl) ?_
  refine qZ ?_
  refine qP (vs := [_]) Tryz.results10 ⟨qM rfl rfl, trivial⟩ fun V => ?_
  obtain ⟨h9, E9, e9, V9⟩ := wl_drop [_] [_] V
  exact ⟨h9, _, e9, V9, zT (zT (zT (zT E13 E4) E5) E6) E9, x6, [], rfl, ⟨none, 0, rfl, row_nil _ _⟩, set_nil _, by simp⟩
 ·skip
  by_cases he : a = d
  ·skip
   have he' : (a == d) = true := by simpa using he
   refine qE ?_
   refine qB rfl ?_
   refine qA (qC (v := .int .i64 _) rfl) ?_
   refine qA (qC (v := .int .i64 _) rfl) ?_
   refine qA (qN (v := .bool _) rfl) ?_
   refine qA (qC (v := .bool _) rfl) ?_
   refine qK rfl he' ?_
   refine qK rfl he' ?_
   refine qA (wP rfl he' (v := .bool _) rfl) ?_
   refine qA (qD (v := .bool _) rfl) ?_
   refine xp_condT rfl (rfl) ?_
   refine qE ?_
   refine qB rfl ?_
   refine qA (qC (v := .int .i64 _) rfl) ?_
   refine wA (zc := [_]) (vs := [(0, .int .i64 _)]) (cs := [_]) rfl rfl rfl rfl rfl rfl rfl fun b36 hb36 => ?_
   refine qL [_, _, _] rfl ?_
   refine wp_pub 2 rfl rfl ?_
   intro g1 G1 p1
   refine qL [_, _, _] rfl ?_
   refine qA (qD (v := .slice _ _ _) rfl) ?_
   refine qZ ?_
   refine qP (vs := [_]) Tryz.results10 ⟨qM rfl rfl, trivial⟩ fun V => ?_
   obtain ⟨h9, E9, e9, V9⟩ := wl_drop [_, _] [_] V
   exact ⟨h9, _, e9, V9, zT (zT (zT (zT (zT E13 E4) E5) E6) G1) E9, x6, [a], rfl, ⟨_, _, rfl, (row_one p1).ext E9⟩, set_one ha, by simp⟩
  ·skip
   have he' : (a == d) = false := by simpa using he
   refine qE ?_
   refine qB rfl ?_
   refine qA (qC (v := .int .i64 _) rfl) ?_
   refine qA (qC (v := .int .i64 _) rfl) ?_
   refine qA (qN (v := .bool _) rfl) ?_
   refine qA (qC (v := .bool _) rfl) ?_
   refine qG rfl he' ?_
   refine qA (qC (v := .pointer (some ⟨b, 0, none⟩)) rfl) ?_
   refine qG rfl he' ?_
   refine op_fnMM [] [_] [_] (vs := [.pointer _, .int .i64 _, .int .i64 _]) rfl rfl rfl ((Odds_ok b x6 1 2 (by omega) h6)) ?_
   rintro _ h7 _ E7 ⟨x7, u7, rfl, rfl⟩
   refine qL [_, _] rfl ?_
   refine qA (wT rfl he' (v := .bool _) rfl) ?_
   refine qA (qD (v := .bool _) rfl) ?_
   refine qU rfl (fun hv => ?_) (fun hv => ?_)
   ·skip
    refine qE ?_
    refine qB rfl ?_
    refine qA (qC (v := .int .i64 _) rfl) ?_
    refine wA (zc := [_]) (vs := [(0, .int .i64 _)]) (cs := [_]) rfl rfl rfl rfl rfl rfl rfl fun b36_1 hb36_1 => ?_
    refine qL [_, _, _] rfl ?_
    refine wp_pub 2 rfl rfl ?_
    intro g1 G1 p1
    refine qL [_, _, _] rfl ?_
    refine qA (qD (v := .slice _ _ _) rfl) ?_
    refine qZ ?_
    refine qP (vs := [_]) Tryz.results10 ⟨qM rfl rfl, trivial⟩ fun V => ?_
    obtain ⟨h9, E9, e9, V9⟩ := wl_drop [_, _] [_] V
    exact ⟨h9, _, e9, V9, zT (zT (zT (zT (zT (zT E13 E4) E5) E6) E7) G1) E9, x7, [a], rfl, ⟨_, _, rfl, (row_one p1).ext E9⟩, set_one ha, by simp⟩
   ·skip
    refine qR ?_
    refine qE ?_
    refine qB rfl ?_
    refine qA (qC (v := .int .i64 _) rfl) ?_
    refine qA (qC (v := .int .i64 _) rfl) ?_
    refine qA (pv_min rfl rfl) ?_
    refine qA (qC (v := .int .i64 _) rfl) ?_
    refine qA (qC (v := .int .i64 _) rfl) ?_
    refine qA (pv_max rfl rfl) ?_
    refine wA (zc := [_]) (vs := [(0, .int .i64 _), (1, .int .i64 _)]) (cs := [_, _]) rfl rfl rfl rfl rfl rfl rfl fun b43 hb43 => ?_
    refine qL [_, _, _] rfl ?_
    refine wp_pub 2 rfl rfl ?_
    intro g1 G1 p1
    refine qL [_, _, _] rfl ?_
    refine qA (qD (v := .slice _ _ _) rfl) ?_
    refine qZ ?_
    refine qP (vs := [_]) Tryz.results10 ⟨qM rfl rfl, trivial⟩ fun V => ?_
    obtain ⟨h9, E9, e9, V9⟩ := wl_drop [_, _] [_] V
    exact ⟨h9, _, e9, V9, zT (zT (zT (zT (zT (zT E13 E4) E5) E6) E7) G1) E9, x7, [min a d, max a d], rfl, ⟨_, _, rfl, (row_two p1).ext E9⟩, set_two ha hd he, by simp⟩
end
end Go.Proofs.YthphpbdmbmiaiaaGreat
namespace Go.Proofs.YthphpbdmbmiaiaaGreat
open Go Go.HL Go.Proofs Go.Wx Go.Rd
section
variable [Lvl]
set_option maxRecDepth 100000
def alikeB (m : MachP) (i : Nat) (a : HandP) : Bool := decide (soundsB m [.pin i] a = soundsB m [] a)
def uselessB (m : MachP) (i : Nat) : Bool := (handsM m).all (alikeB m i)
def UseI (m : MachP) (q : Nat) (p1 p5 p8 : Nat × Obj) (pa : Option (Nat × Obj)) (l : Nat) (r : Loop) (h0 : AH) (k : Nat) (h : AH) (M : Pv) : Prop :=
 Ext h0 h ∧ (∀ i x, i < k → (handsM m)[i]? = some x → alikeB m q x = true) ∧ M = [some p1, some p5, pa, none, some p8, some (l, obL r .ready none)]
def UseF (m : MachP) (q : Nat) (p1 p5 p8 : Nat × Obj) (pa : Option (Nat × Obj)) (l : Nat) (r : Loop) (h0 : AH) (h : AH) (M : Pv) : Prop :=
 Ext h0 h ∧ uselessB m q = false ∧ M = [some p1, some p5, pa, none, some p8, some (l, obL r .done (some (.exit 1)))]
theorem UseI.ext {m : MachP} {q : Nat} {p1 p5 p8 : Nat × Obj} {pa : Option (Nat × Obj)} {l : Nat} {r : Loop} {h0 h h' : AH} {k : Nat} {M : Pv} (I : UseI m q p1 p5 p8 pa l r h0 k h M) (E : Ext h h') : UseI m q p1 p5 p8 pa l r h0 k h' M := ⟨I.1.trans E, I.2⟩
theorem UseF.ext {m : MachP} {q : Nat} {p1 p5 p8 : Nat × Obj} {pa : Option (Nat × Obj)} {l : Nat} {r : Loop} {h0 h h' : AH} {M : Pv} (I : UseF m q p1 p5 p8 pa l r h0 h M) (E : Ext h h') : UseF m q p1 p5 p8 pa l r h0 h' M := ⟨I.1.trans E, I.2⟩
end
end Go.Proofs.YthphpbdmbmiaiaaGreat
namespace Go.Proofs.YthphpbdmbmiaiaaGreat
open Go Go.HL Go.Proofs Go.Wx Go.Rd
section
variable [Lvl]
set_option maxRecDepth 100000
theorem snd_lv {m : MachP} (M : MOK m) {l : List FaultP} (hf : ∀ f ∈ l, FOK m f) (a : HandP) : soundsB m l a < 2 ^ m.levers.toNat := by
 have h1 := sounds_lt (brkM m l) a m.travel
 have h2 : (brkF m l).stay < 2 ^ m.levers.toNat := brk_stay_lt M hf
 have h3 : (brkM m l).levers = m.levers := rfl
 rw [h3] at h1
 unfold soundsB
 exact Nat.lt_of_le_of_lt Nat.and_le_left (Nat.or_lt_two_pow h1 h2)
theorem snd_six {m : MachP} (M : MOK m) {l : List FaultP} (hf : ∀ f ∈ l, FOK m f) (a : HandP) : soundsB m l a < 2 ^ 6 :=
 Nat.lt_of_lt_of_le (snd_lv M hf a) (Nat.pow_le_pow_right (by omega) (by have := M.levers; omega))
end
end Go.Proofs.YthphpbdmbmiaiaaGreat
namespace Go.Proofs.YthphpbdmbmiaiaaGreat
open Go Go.HL Go.Proofs Go.Wx Go.Rd
section
variable [Lvl]
set_option maxRecDepth 100000
end
end Go.Proofs.YthphpbdmbmiaiaaGreat
namespace Go.Proofs.YthphpbdmbmiaiaaGreat
open Go Go.HL Go.Proofs Go.Wx Go.Rd
section
variable [Lvl]
set_option maxRecDepth 100000
def scanB (out : List (List Int)) (s : List Int) : Bool := decide (s.length > 2) || (decide (out.length > 0) && decide (s.length > (out.headD []).length))
def scanF (E : List Int → Bool) : List (List Int) → List (List Int) → List (List Int)
 | out, [] => out
 | out, s :: ss => if scanB out s then out else scanF E (if E s then out ++ [s] else out) ss
theorem scan_block {E : List Int → Bool} {j : Nat} (hj : j ≤ 2) : ∀ (ss tt out : List (List Int)), (∀ s ∈ ss, s.length = j) → (∀ o ∈ out, o.length = j) → scanF E out (ss ++ tt) = scanF E (out ++ ss.filter E) tt
 | [], tt, out, _, _ => by simp
 | s :: ss, tt, out, hs, ho => by
  have hsj := hs s (List.mem_cons_self ..)
  have hb : scanB out s = false := by
   unfold scanB
   cases out with
   | nil => simp; omega
   | cons o out => have := ho o (List.mem_cons_self ..); simp; omega
  rw [List.cons_append, scanF, hb]
  simp only [Bool.false_eq_true, if_false]
  by_cases he : E s = true
  ·rw [if_pos he, scan_block hj ss tt (out ++ [s]) (fun x hx => hs x (List.mem_cons_of_mem _ hx)) (mem_one ho hsj), List.filter_cons_of_pos he]
   simp
  ·rw [if_neg he, scan_block hj ss tt out (fun x hx => hs x (List.mem_cons_of_mem _ hx)) ho, List.filter_cons_of_neg he]
theorem scan_end {E : List Int → Bool} {out tt : List (List Int)} (h : ∀ s ∈ tt, scanB out s = true) : scanF E out tt = out := by
 cases tt with
 | nil => rfl
 | cons s tt => rw [scanF, if_pos (h s (List.mem_cons_self ..))]
def fewJ (m : MachP) (hs : List HeardP) (j : Nat) : List (List Int) := (chosM (faultsM m).length j 0).filter fun s => explainsB m (pickL m s) hs
def fewestL (m : MachP) (hs : List HeardP) : List (List Int) := scanF (fun s => explainsB m (pickL m s) hs) [] (setsM (faultsM m).length)
theorem few_len {m : MachP} {hs : List HeardP} {j : Nat} : ∀ o ∈ fewJ m hs j, o.length = j := fun o ho => (chos_set (List.mem_filter.1 ho).1).2
theorem fewest_eq {m : MachP} (hs : List HeardP) (hn : 2 ≤ (faultsM m).length) : fewestL m hs = if fewJ m hs 0 ≠ [] then fewJ m hs 0 else if fewJ m hs 1 ≠ [] then fewJ m hs 1 else fewJ m hs 2 := by
 obtain ⟨n, hnn⟩ : ∃ n, n = (faultsM m).length := ⟨_, rfl⟩
 obtain ⟨E, hE⟩ : ∃ E : List Int → Bool, E = fun s => explainsB m (pickL m s) hs := ⟨_, rfl⟩
 have e1 : setsM n = chosM n 0 0 ++ (chosM n 1 0 ++ (chosM n 2 0 ++ (List.range' 3 (n - 2)).flatMap fun j => chosM n j 0)) := by
  rw [setsM_eq]
  unfold choP
  rw [show n + 1 = 3 + (n - 2) by omega, ← List.range'_append_1, List.flatMap_append]
  simp [List.range']
 have hf : ∀ j, fewJ m hs j = (chosM n j 0).filter E := fun j => by rw [hnn, hE]; rfl
 have hsz : ∀ j, ∀ s ∈ chosM n j 0, s.length = j := fun j s h => (chos_set h).2
 have hrest : ∀ s ∈ (List.range' 3 (n - 2)).flatMap (fun j => chosM n j 0), 3 ≤ s.length := fun s h => by
  obtain ⟨j, hj, hs'⟩ := List.mem_flatMap.1 h
  have := List.mem_range'_1.1 hj
  rw [hsz j s hs']
  omega
 have hb : ∀ (out : List (List Int)) (j : Nat) (s : List Int), out ≠ [] → (∀ o ∈ out, o.length = j) → j < s.length → scanB out s = true := fun out j s h1 h2 h3 => by
  unfold scanB
  cases out with
  | nil => exact absurd rfl h1
  | cons o out => have := h2 o (List.mem_cons_self ..); simp; omega
 have hb3 : ∀ (out : List (List Int)) (s : List Int), 3 ≤ s.length → scanB out s = true := fun out s h => by unfold scanB; simp; omega
 rw [fewestL, ← hnn, ← hE, e1, scan_block (j := 0) (by omega) _ _ _ (hsz 0) (fun o h => absurd h List.not_mem_nil), List.nil_append, ← hf]
 by_cases h0 : fewJ m hs 0 = []
 ·rw [if_neg (by simp [h0]), h0, scan_block (j := 1) (by omega) _ _ _ (hsz 1) (fun o h => absurd h List.not_mem_nil), List.nil_append, ← hf]
  by_cases h1 : fewJ m hs 1 = []
  ·rw [if_neg (by simp [h1]), h1, scan_block (j := 2) (by omega) _ _ _ (hsz 2) (fun o h => absurd h List.not_mem_nil), List.nil_append, ← hf]
   exact scan_end fun s hs => hb3 _ s (hrest s hs)
  ·rw [if_pos h1]
   refine scan_end fun s hs => hb _ 1 s h1 few_len ?_
   rcases List.mem_append.1 hs with h | h
   ·rw [hsz 2 s h]; omega
   ·have := hrest s h; omega
 ·rw [if_pos h0]
  refine scan_end fun s hs => hb _ 0 s h0 few_len ?_
  rcases List.mem_append.1 hs with h | h
  ·rw [hsz 1 s h]; omega
  ·rcases List.mem_append.1 h with h | h
   ·rw [hsz 2 s h]; omega
   ·have := hrest s h; omega
end
end Go.Proofs.YthphpbdmbmiaiaaGreat
namespace Go.Proofs.YthphpbdmbmiaiaaGreat
open Go Go.HL Go.Proofs Go.Wx Go.Rd
section
variable [Lvl]
set_option maxRecDepth 100000
theorem op_loadW1' {P : Program} {n : Nat} {ops : Array Oper} {d : Option Tmp} {ty : TypeId} {ps : String} {af : Array Edge} {os : List Oper} {K : Sl → Pv → AH → Prop} {E : Value → Sl → Pv → AH → Prop} {S : Sl} {L : Pv} {h : AH} {t : TypeId} {x : Operand} {g off : Nat} {v : Value} (hx : ev n S x = .pointer (some ⟨g, off, none⟩)) (ha : pev P (isAgg t) = some false)
  (hc : Valid h L → Cells (wl h L) g off [v]) (k : wpL P n ops os K E (put S d v) L h) : wpL P n ops (⟨d, .load t x, ty, ps, af, none⟩ :: os) K E S L h := by
 refine op_of fun V => ?_
 unfold opW
 simp only [execOp, hx, Instr.loadAt, Instr.sureAddr]
 refine wX (wO (a := ⟨g, off, none⟩) rfl (wO ha ?_))
 exact ⟨v, hc V 0 v rfl, L, h, rfl, V, k⟩
theorem acc_at {α : Type} {e : TypeId} {m : Nat} {enc : α → List Value} {l : List α} {a : Acc} (r : AccR e m (l.flatMap enc) a) (hl : ∀ x ∈ l, (enc x).length = m) (hm : 0 < m) {i : Nat} (hi : i < l.length) :
  ∃ g, a.A = some ⟨g, 0, none⟩ ∧ ∀ (h : AH) (L : Pv) (j : Nat), L[j]? = some a.p → Valid h L → Cells (wl h L) g (0 + i * m) (enc l[i]) := by
 have hx : l[i]? = some l[i] := List.getElem?_eq_getElem hi
 have hfl := wN hl
 rcases r with ⟨_, e0, A, ev⟩ | ⟨b, len, cap, junk, hlen, ev, hpp, _⟩
 ·exfalso
  rw [e0] at hfl
  have : 0 < l.length * m := Nat.mul_pos (by omega) hm
  simp at hfl
  omega
 ·injection ev with h1 _ _
  refine ⟨b, h1, fun h L j hj V => ?_⟩
  rw [hpp] at hj
  intro q u hu
  have h2 := flat_get enc m l hl i l[i] hx q u hu
  have h3 : (l.flatMap enc ++ junk)[i * m + q]? = some u := by rw [List.getElem?_append_left (List.getElem?_eq_some_iff.1 h2).1]; exact h2
  simp only [cellA, wl_get V hj]
  rw [show 0 + i * m + q = i * m + q from by omega]
  simpa using h3
def ScanI (E : List Int → Bool) (all : List (List Int)) (p2 p3 p6 : Nat × Obj) (b7 l : Nat) (t7 te : TypeId) (r : Loop) (h0 : AH) (k : Nat) (h : AH) (M : Pv) : Prop :=
 Ext h0 h ∧ ∃ (a : Acc) (cs : List (List Value)) (out : List (List Int)), (scanF E out (all.drop k) = scanF E [] all ∧ out.length ≤ k) ∧ AccR te 1 (cs.flatMap id) a ∧ Els h TL out cs ∧ (∀ x ∈ cs, x.length = 1) ∧
  M = [some p2, some p3, some p6, some (b7, .cells #[.slice a.A a.n a.c] t7 (0, 0)), a.p, some (l, obL r .ready none)]
def ScanF (E : List Int → Bool) (all : List (List Int)) (p2 p3 p6 : Nat × Obj) (b7 l : Nat) (t7 te : TypeId) (r : Loop) (h0 : AH) (h : AH) (M : Pv) : Prop :=
 Ext h0 h ∧ ∃ (a : Acc) (cs : List (List Value)) (out : List (List Int)), (out = scanF E [] all ∧ out.length ≤ all.length) ∧ AccR te 1 (cs.flatMap id) a ∧ Els h TL out cs ∧ (∀ x ∈ cs, x.length = 1) ∧
  M = [some p2, some p3, some p6, some (b7, .cells #[.slice a.A a.n a.c] t7 (0, 0)), a.p, some (l, obL r .done (some (.exit 0)))]
theorem ScanI.ext {E : List Int → Bool} {all : List (List Int)} {p2 p3 p6 : Nat × Obj} {b7 l : Nat} {t7 te : TypeId} {r : Loop} {h0 h h' : AH} {k : Nat} {M : Pv} (I : ScanI E all p2 p3 p6 b7 l t7 te r h0 k h M) (X : Ext h h') : ScanI E all p2 p3 p6 b7 l t7 te r h0 k h' M := by
 obtain ⟨E0, a, cs, out, e1, e2, e3, e4, e5⟩ := I
 exact ⟨E0.trans X, a, cs, out, e1, e2, e3.ext TL.mono X, e4, e5⟩
theorem ScanF.ext {E : List Int → Bool} {all : List (List Int)} {p2 p3 p6 : Nat × Obj} {b7 l : Nat} {t7 te : TypeId} {r : Loop} {h0 h h' : AH} {M : Pv} (I : ScanF E all p2 p3 p6 b7 l t7 te r h0 h M) (X : Ext h h') : ScanF E all p2 p3 p6 b7 l t7 te r h0 h' M := by
 obtain ⟨E0, a, cs, out, e1, e2, e3, e4, e5⟩ := I
 exact ⟨E0.trans X, a, cs, out, e1, e2, e3.ext TL.mono X, e4, e5⟩
theorem setsM_len24 {n : Nat} (hn : n ≤ 24) : (setsM n).length ≤ 419430400 := by
 have key : ∀ k, k ≤ n + 1 → (choP (fun m => chosM n m 0) 0 k).length ≤ k * 16777216 := by
  intro k
  induction k with
  | zero => intro _; simp [choP_zero]
  | succ k ih =>
   intro hk
   have h0 := ih (by omega)
   have h1 := chos_len (n := n) (0 + k) 0
   have h2 : 2 ^ (n - 0) ≤ 2 ^ 24 := Nat.pow_le_pow_right (by omega) (by omega)
   rw [choP_succ, List.length_append, Nat.add_mul]
   omega
 have h := key (n + 1) (Nat.le_refl _)
 rw [setsM_eq]
 omega
set_option maxHeartbeats 8000000 in
theorem fewest_ok (hph : Lvl.ph = true) (m : MachP) (M : MOK m) (hn : (faultsM m).length ≤ 24) (hs : List HeardP) (X : ∀ x ∈ hs, HeardOK m x) (hl2 : hs.length < 2 ^ 40) (AB AQ AL AW UA : Option Addr) (cB cQ cL cW cU : Nat) (cs : List (List Value)) (h : AH) (RM : MachR h AB AQ AL AW m) (R : Row h 3 id UA cs) (EL : Els h TU hs cs) :
  FnT Tryz.prog 45 #[machV AB AQ AL AW cB cQ cL cW m, .slice UA hs.length cU] h (fun v h' => ∃ L, v = .tuple #[L, .bool (decide ((fewestL m hs).length > 0))] ∧ SlL h' (fewestL m hs) L) := by
 have mlv := M.levers
 have mpl := M.pl
 have mll := M.ll
 refine wM Tryz.func45 rfl Tryz.ntmps45 rfl ?_
 refine qE ?_
 refine qB rfl ?_
 refine zG (v := .agg #[.int .i64 _, .int .i64 _, .int .i64 _, .int .i64 _, .int .i64 _, .slice _ _ _, .slice _ _ _, .slice _ _ _, .slice _ _ _]) (cs := [_, _, _, _, _, _, _, _, _]) rfl rfl fun b2 hb2 => ?_
 refine qL [_] rfl ?_
 refine zG (v := .slice _ _ _) (cs := [_]) rfl rfl fun b3 hb3 => ?_
 refine qL [_, _] rfl ?_
 refine qA (qD (v := .slice _ _ _) rfl) ?_
 refine qA (qD (v := .bool _) rfl) ?_
 refine qE ?_
 refine qB rfl ?_
 refine qY 0 (vs := [.int .i64 _, .int .i64 _, .int .i64 _, .int .i64 _, .int .i64 _, .slice _ _ _, .slice _ _ _, .slice _ _ _, .slice _ _ _]) rfl rfl rfl rfl rfl ?_
 refine wJ (caps := []) (vs := [.agg #[.int .i64 _, .int .i64 _, .int .i64 _, .int .i64 _, .int .i64 _, .slice _ _ _, .slice _ _ _, .slice _ _ _, .slice _ _ _]]) rfl rfl rfl (faults_ok m (by omega) (by omega) (by omega) AB AQ AL AW cB cQ cL cW h) ?_
 rintro _ h4 E4 ⟨FA, cF, rfl, RF⟩
 refine zF (cs := [_]) rfl rfl fun b6 hb6 => ?_
 refine qL [_, _, _] rfl ?_
 refine wI 2 (v := .slice _ _ _) (vs := [_]) (c' := [_]) rfl rfl rfl rfl rfl rfl rfl rfl rfl ?_
 refine qL [_, _, _] rfl ?_
 refine qE ?_
 refine qB rfl ?_
 refine zF (cs := [_]) rfl rfl fun b7 hb7 => ?_
 refine qL [_, _, _, _] rfl ?_
 refine goes_more ?_
 refine qT [_, _, _, _, _] rfl ?_
 refine qE ?_
 refine qE ?_
 refine qB rfl ?_
 refine qJ 2 (v := .slice _ _ _) rfl rfl rfl rfl ?_
 refine qA (wK rfl rfl) ?_
 refine wJ (caps := []) (vs := [.int .i64 _]) rfl rfl rfl (choices_ok (faultsM m).length (by omega) _ rfl h4) ?_
 rintro y h7 E7 It
 refine qQ ?_
 obtain ⟨Ef, hEf⟩ : ∃ Ef : List Int → Bool, Ef = fun s => explainsB m (pickL m s) hs := ⟨_, rfl⟩
 obtain ⟨all, hall⟩ : ∃ all, all = setsM (faultsM m).length := ⟨_, rfl⟩
 have hal : all.length ≤ 419430400 := by rw [hall]; exact setsM_len24 hn
 rw [show fewestL m hs = scanF Ef [] all by rw [hEf, hall]; rfl]
 rw [← hall] at It
 have E07 := (zT E4 E7)
 have RM7 := RM.ext (zT E4 E7)
 have RF7 := RF.ext E7
 have R7 := R.ext (zT E4 E7)
 have EL7 := EL.ext TU.mono (zT E4 E7)
 refine xp_rangeFunc rfl ?_
 intro r l lp htm hpr has hbd V0
 refine CallV.mono (It (.yield l) #[] #[] (ScanI Ef all (b2, .cells #[.int .i64 m.rods, .int .i64 m.levers, .int .i64 m.regs, .int .i64 m.travel, .int .i64 m.opn, .slice AB m.buttons.length cB, .slice AQ m.pins.length cQ, .slice AL m.links.length cL, .slice AW m.weights.length cW] 26 (0, 0)) (b3, .cells #[.slice UA hs.length cU] 27 (0, 0)) (b6, .cells #[.slice FA (faultsM m).length cF] 87 (0, 0)) b7 l 60 22 lp h7) (ScanF Ef all (b2, .cells #[.int .i64 m.rods, .int .i64 m.levers, .int .i64 m.regs, .int .i64 m.travel, .int .i64 m.opn, .slice AB m.buttons.length cB, .slice AQ m.pins.length cQ, .slice AL m.links.length cL, .slice AW m.weights.length cW] 26 (0, 0)) (b3, .cells #[.slice UA hs.length cU] 27 (0, 0)) (b6, .cells #[.slice FA (faultsM m).length cF] 87 (0, 0)) b7 l 60 22 lp h7) (fun k h1 h2 M E I => I.ext E) (fun h1 h2 M E I => I.ext E) ?_ h7 _ (Ext.refl _) ⟨Ext.refl _, acc0, [], [], ⟨rfl, Nat.le_refl _⟩, accR0, Els.nil _ _, fun _ hx => absurd hx List.not_mem_nil, rfl⟩ V0) ?_ (fun _ _ y => y)
 ·rintro k s v hcl M' hk hT ⟨E9, a, ds, out, ⟨I1, I2⟩, I3, I4, I5, rfl⟩
  obtain ⟨BA, cBA, rfl, RB⟩ := hT
  obtain ⟨hkl, hke⟩ := List.getElem?_eq_some_iff.1 hk
  have hSs : SetOK s (faultsM m).length := setsM_set (by rw [← hall]; exact List.mem_of_getElem? hk)
  have hsl := set_len hSs
  rw [List.drop_eq_getElem_cons hkl, hke] at I1
  have hdl : (ds.flatMap id).length = out.length := by rw [wN (enc := id) (m := 1) I5, I4.1]; omega
  have han : a.n = out.length := by have := AccR.len I3; omega
  intro V
  refine callV_yield (wl_get V (i := 5) rfl) hpr rfl htm has hbd ?_
  refine round_enter (i := 5) (r := lp) ?_ V
  refine qT [_, _, _, _, _, _] rfl ?_
  refine qB rfl ?_
  refine qA (qD (v := .slice _ _ _) rfl) ?_
  refine ⟨rfl, none, rfl, ?_⟩
  refine qT [_, _, _, _, _, _] rfl ?_
  refine qQ ?_
  refine qE ?_
  refine xp_cutB [15, 16, 17, 18, 19, 20, 21, 22, 23, 24, 25, 26, 27, 28, 29, 30, 31] 6 (α := Unit) (fun u => [(31, .bool (scanB out s))]) (fun u L => L) (fun u h_u => True) ?_ ?_
  ·skip
   by_cases hA : 2 < s.length
   ·have hA' : decide ((s.length : Int) > 2) = true := decide_eq_true (by omega)
    have hsb : scanB out s = true := by unfold scanB; simp; omega
    refine qB rfl ?_
    refine qA (qC (v := .slice _ _ _) rfl) ?_
    refine qA (wK rfl rfl) ?_
    refine qA (qN (v := .bool _) rfl) ?_
    refine qA (qC (v := .bool _) rfl) ?_
    refine qK rfl hA' ?_
    refine qK rfl hA' ?_
    refine qK rfl hA' ?_
    refine qK rfl hA' ?_
    refine guard_un rfl ?_
    refine guard_un rfl ?_
    refine guard_un rfl ?_
    refine guard_un rfl ?_
    refine guard_un rfl ?_
    refine guard_un rfl ?_
    refine guard_un rfl ?_
    refine qK rfl hA' ?_
    refine qA (wP rfl hA' (v := .bool _) rfl) ?_
    refine ⟨(), ⟨(by rw [hsb]; rfl), trivial⟩, rfl, rfl, (Ext.refl _), fun h3 E3 => by first | trivial | omega | (refine ⟨?_, ?_⟩ <;> omega), ?_⟩
    repeat (first | exact zR _ _ | exact qW _ _ _ | refine wD (by decide) ?_ | refine qV rfl ?_ | refine wE rfl ?_)
   ·have hA' : decide ((s.length : Int) > 2) = false := decide_eq_false (by omega)
    rcases Nat.eq_zero_or_pos out.length with h0 | h0
    ·have hB' : decide ((a.n : Int) > 0) = false := decide_eq_false (by omega)
     have hsb : scanB out s = false := by rw [List.length_eq_zero_iff.1 h0]; unfold scanB; simp; omega
     refine qB rfl ?_
     refine qA (qC (v := .slice _ _ _) rfl) ?_
     refine qA (wK rfl rfl) ?_
     refine qA (qN (v := .bool _) rfl) ?_
     refine qA (qC (v := .bool _) rfl) ?_
     refine qG rfl hA' ?_
     refine qJ 3 (v := .slice _ _ _) rfl rfl rfl rfl ?_
     refine qG rfl hA' ?_
     refine qA (wK rfl rfl) ?_
     refine qG rfl hA' ?_
     refine qA (qN (v := .bool _) rfl) ?_
     refine qG rfl hA' ?_
     refine qA (qC (v := .bool _) rfl) ?_
     refine qK rfl hB' ?_
     refine qK rfl hB' ?_
     refine qK rfl hB' ?_
     refine qK rfl hB' ?_
     refine qK rfl hB' ?_
     refine qK rfl hB' ?_
     refine qK rfl hB' ?_
     refine qG rfl hA' ?_
     refine qA (wT rfl hB' (v := .bool _) rfl) ?_
     refine qA (wT rfl hA' (v := .bool _) rfl) ?_
     refine ⟨(), ⟨(by rw [hsb]; rfl), trivial⟩, rfl, rfl, (Ext.refl _), fun h3 E3 => by first | trivial | omega | (refine ⟨?_, ?_⟩ <;> omega), ?_⟩
     repeat (first | exact zR _ _ | exact qW _ _ _ | refine wD (by decide) ?_ | refine qV rfl ?_ | refine wE rfl ?_)
    ·have hB' : decide ((a.n : Int) > 0) = true := decide_eq_true (by omega)
     have h0d : 0 < ds.length := by rw [I4.1]; exact h0
     obtain ⟨hoc, y0, e0, XA, cX, rfl, RX⟩ := I4.at h0
     obtain ⟨gq, hAs, hcs⟩ := acc_at (enc := id) I3 I5 (by omega) h0d
     have hid : id ds[0] = [.slice XA out[0].length cX] := e0
     have hsb : scanB out s = decide ((s.length : Int) > (out[0].length : Int)) := by
      have hh : out.headD [] = out[0] := by cases out with | nil => simp at h0 | cons _ _ => rfl
      unfold scanB
      rw [hh, Bool.eq_iff_iff]
      simp
      omega
     refine qB rfl ?_
     refine qA (qC (v := .slice _ _ _) rfl) ?_
     refine qA (wK rfl rfl) ?_
     refine qA (qN (v := .bool _) rfl) ?_
     refine qA (qC (v := .bool _) rfl) ?_
     refine qG rfl hA' ?_
     refine qJ 3 (v := .slice _ _ _) rfl rfl rfl rfl ?_
     refine qG rfl hA' ?_
     refine qA (wK rfl rfl) ?_
     refine qG rfl hA' ?_
     refine qA (qN (v := .bool _) rfl) ?_
     refine qG rfl hA' ?_
     refine qA (qC (v := .bool _) rfl) ?_
     refine qG rfl hB' ?_
     refine qA (qC (v := .slice _ _ _) rfl) ?_
     refine qG rfl hB' ?_
     refine qA (wK rfl rfl) ?_
     refine qG rfl hB' ?_
     refine qJ 3 (v := .slice _ _ _) rfl rfl rfl rfl ?_
     refine qG rfl hB' ?_
     refine qA (wG (m := 1) rfl hAs rfl rfl rfl (by omega) (by omega)) ?_
     refine qG rfl hB' ?_
     refine op_loadW1' (v := .slice XA out[0].length cX) rfl rfl (fun V => by rw [← hid]; exact hcs _ _ 4 rfl V) ?_
     refine qG rfl hB' ?_
     refine qA (wK rfl rfl) ?_
     refine qG rfl hB' ?_
     refine qA (qN (v := .bool _) rfl) ?_
     refine qG rfl hA' ?_
     refine qA (wP rfl hB' (v := .bool _) rfl) ?_
     refine qA (wT rfl hA' (v := .bool _) rfl) ?_
     refine ⟨(), ⟨(by rw [hsb]; rfl), trivial⟩, rfl, rfl, (Ext.refl _), fun h3 E3 => by first | trivial | omega | (refine ⟨?_, ?_⟩ <;> omega), ?_⟩
     repeat (first | exact zR _ _ | exact qW _ _ _ | refine wD (by decide) ?_ | refine qV rfl ?_ | refine wE rfl ?_)
  ·rintro u T1 h_u E_u J_u
   refine qT [_, _, _, _, _, _] rfl ?_
   refine qU rfl (fun hb => ?_) (fun hb => ?_)
   ·skip
    have hst : scanF Ef out (s :: all.drop (k + 1)) = out := by rw [scanF, if_pos hb]
    refine wV ?_
    intro V2
    have V3 := valid_set (o' := obL lp .done (some (.exit 0))) V2 (i := 5) rfl
    exact ⟨rfl, ⟨_, _, rfl⟩, _, _, rfl, V3, E_u, .inr ⟨rfl, zT E9 E_u, a, ds, out, ⟨hst.symm.trans I1, by omega⟩, I3, I4.ext TL.mono E_u, I5, rfl⟩⟩
   ·skip
    have hst : scanF Ef out (s :: all.drop (k + 1)) = scanF Ef (if Ef s then out ++ [s] else out) (all.drop (k + 1)) := by rw [scanF, hb]; rfl
    have hpf := pickL_fok M (l := s) hSs.mem
    refine qR ?_
    refine qE ?_
    refine xp_dw [] rfl rfl rfl ?_
    refine wH (i := 0) rfl (by decide +kernel) ?_
    refine qY 0 (vs := [.int .i64 _, .int .i64 _, .int .i64 _, .int .i64 _, .int .i64 _, .slice _ _ _, .slice _ _ _, .slice _ _ _, .slice _ _ _]) rfl rfl rfl rfl rfl ?_
    refine wH (i := 1) rfl (by decide +kernel) ?_
    refine qJ 2 (v := .slice _ _ _) rfl rfl rfl rfl ?_
    refine qI (i := 2) rfl (by decide +kernel) (qC (v := .slice _ _ _) rfl) ?_
    refine wH (i := 4) rfl (by decide +kernel) ?_
    refine qJ 1 (v := .slice _ _ _) rfl rfl rfl rfl ?_
    refine dw_eff (i := 3) rfl (by decide +kernel) ?_
    refine wJ (caps := []) (vs := [.slice _ _ _, .slice _ _ _]) rfl rfl rfl (pick_ok (faultsM m) (by omega) s (by omega) (fun n hn => hSs.mem n hn) FA BA cF cBA h_u (RF7.ext (zT E9 E_u)) (RB.ext E_u)) ?_
    rintro _ h10 E10 ⟨PA, cP, rfl, RP⟩
    refine ⟨ext_wlm E10 _, ?_⟩
    refine zA (i := 5) rfl (by decide +kernel) (by decide +kernel) ?_
    refine wJ (caps := []) (vs := [.agg #[.int .i64 _, .int .i64 _, .int .i64 _, .int .i64 _, .int .i64 _, .slice _ _ _, .slice _ _ _, .slice _ _ _, .slice _ _ _], .slice _ _ _, .slice _ _ _]) rfl rfl rfl (explains_ok hph m M (pickL m s) hpf (by rw [pickL, List.length_map]; omega) hs X hl2 AB AQ AL AW PA UA cB cQ cL cW cP cU cs h10 (RM7.ext (zT E9 (zT E_u E10))) RP (R7.ext (zT E9 (zT E_u E10))) (EL7.ext TU.mono (zT E9 (zT E_u E10)))) ?_
    rintro _ h11 E11 rfl
    rw [show explainsB m (pickL m s) hs = Ef s by rw [hEf]]
    refine zN rfl ?_
    refine qU rfl (fun he => ?_) (fun he => ?_)
    ·skip
     rw [if_pos he] at hst
     refine qB rfl ?_
     refine qJ 3 (v := .slice _ _ _) rfl rfl rfl rfl ?_
     refine qA (qC (v := .slice _ _ _) rfl) ?_
     refine wA (zc := [_]) (vs := [(0, .slice _ _ _)]) (cs := [_]) rfl rfl rfl rfl rfl rfl rfl fun b40 hb40 => ?_
     refine qL [_, _, _, _, _, _, _] rfl ?_
     refine wZ 4 I3 rfl rfl rfl (fun V => rdP V (i := 6) rfl) rfl rfl rfl rfl rfl rfl rfl rfl rfl (by omega) rfl (by rw [hdl]; simp; omega) fun a2 h2a E2a ha2 => ?_
     refine qL [_, _, _, _, _, _, _] rfl ?_
     refine wI 3 (v := .slice _ _ _) (vs := [_]) (c' := [_]) rfl rfl rfl rfl rfl rfl rfl rfl rfl ?_
     refine qL [_, _, _, _, _, _, _] rfl ?_
     intro V2
     have V3 := valid_set (o' := obL lp .ready none) V2 (i := 5) rfl
     obtain ⟨h99, E99, e9, V9⟩ := wl_drop [_] [_, _, _, _, _, _] V3
     exact ⟨rfl, ⟨_, _, rfl⟩, h99, _, e9, V9, zT (zT (zT (zT E_u E10) E11) E2a) E99, .inl ⟨rfl, zT E9 (zT (zT (zT (zT E_u E10) E11) E2a) E99), a2, ds ++ [[.slice BA s.length cBA]], out ++ [s], ⟨hst.symm.trans I1, by simp; omega⟩, by rw [List.flatMap_append]; exact ha2, ((I4.ext TL.mono (zT (zT (zT E_u E10) E11) E2a)).snoc ⟨_, rfl, BA, cBA, rfl, RB.ext (zT (zT (zT E_u E10) E11) E2a)⟩).ext TL.mono E99, one_len I5 rfl, rfl⟩⟩
    ·skip
     rw [if_neg (by rw [he]; decide)] at hst
     refine qR ?_
     intro V2
     have V3 := valid_set (o' := obL lp .ready none) V2 (i := 5) rfl
     exact ⟨rfl, ⟨_, _, rfl⟩, _, _, rfl, V3, (zT (zT E_u E10) E11), .inl ⟨rfl, zT E9 (zT (zT E_u E10) E11), a, ds, out, ⟨hst.symm.trans I1, by omega⟩, I3, I4.ext TL.mono (zT (zT E_u E10) E11), I5, rfl⟩⟩
 ·rintro v H ⟨h', M', rfl, V', E', ⟨E9, a, ds, out, ⟨I1, I2⟩, I3, I4, I5, rfl⟩ | ⟨E9, a, ds, out, ⟨I1, I2⟩, I3, I4, I5, rfl⟩⟩
  rotate_left
  ·refine ⟨h', [_, _, _, _, _], .done, some (.exit 0), rfl, V', by simp, fun h'' E'' => ?_⟩
   obtain ⟨p8, A8, n8, c8⟩ := a
   obtain rfl : n8 = out.length := by have := AccR.len I3; rw [wN (enc := id) (m := 1) I5, I4.1] at this; dsimp only at this; omega
   dsimp only at *
   rw [← I1]
   refine wV ?_
   refine qT [_, _, _, _, _] rfl ?_
   refine qE ?_
   refine xp_dw [] rfl rfl rfl ?_
   refine wH (i := 0) rfl (by decide +kernel) ?_
   refine qJ 3 (v := .slice _ _ _) rfl rfl rfl rfl ?_
   refine wH (i := 1) rfl (by decide +kernel) ?_
   refine qJ 3 (v := .slice _ _ _) rfl rfl rfl rfl ?_
   refine qI (i := 2) rfl (by decide +kernel) (wK rfl rfl) ?_
   refine qI (i := 3) rfl (by decide +kernel) (qN (v := .bool _) rfl) ?_
   refine qI (i := 4) rfl (by decide +kernel) (qD (v := .slice _ _ _) rfl) ?_
   refine qI (i := 5) rfl (by decide +kernel) (qD (v := .bool _) rfl) ?_
   refine zN rfl ?_
   refine qZ ?_
   refine res_listM (vs := [_, _]) rfl Tryz.results45 ⟨qM rfl rfl, qM rfl rfl, trivial⟩ fun hM EM V => ?_
   exact ⟨zT (zT (zT (zT E4 E7) E') E'') (zT EM (qX V)), _, by simp; rfl, SlX.acc (i := 4) I3 (by omega) I5 V rfl (I4.ext TL.mono (zT E'' (zT EM (qX V))))⟩
  ·refine ⟨h', [_, _, _, _, _], .ready, none, rfl, V', by simp, fun h'' E'' => ?_⟩
   have hst : out = scanF Ef [] all := by rw [List.drop_of_length_le (by omega)] at I1; exact I1
   obtain ⟨p8, A8, n8, c8⟩ := a
   obtain rfl : n8 = out.length := by have := AccR.len I3; rw [wN (enc := id) (m := 1) I5, I4.1] at this; dsimp only at this; omega
   dsimp only at *
   rw [← hst]
   refine qT [_, _, _, _, _] rfl ?_
   refine qE ?_
   refine xp_dw [] rfl rfl rfl ?_
   refine wH (i := 0) rfl (by decide +kernel) ?_
   refine qJ 3 (v := .slice _ _ _) rfl rfl rfl rfl ?_
   refine wH (i := 1) rfl (by decide +kernel) ?_
   refine qJ 3 (v := .slice _ _ _) rfl rfl rfl rfl ?_
   refine qI (i := 2) rfl (by decide +kernel) (wK rfl rfl) ?_
   refine qI (i := 3) rfl (by decide +kernel) (qN (v := .bool _) rfl) ?_
   refine qI (i := 4) rfl (by decide +kernel) (qD (v := .slice _ _ _) rfl) ?_
   refine qI (i := 5) rfl (by decide +kernel) (qD (v := .bool _) rfl) ?_
   refine zN rfl ?_
   refine qZ ?_
   refine res_listM (vs := [_, _]) rfl Tryz.results45 ⟨qM rfl rfl, qM rfl rfl, trivial⟩ fun hM EM V => ?_
   exact ⟨zT (zT (zT (zT E4 E7) E') E'') (zT EM (qX V)), _, by simp; rfl, SlX.acc (i := 4) I3 (by omega) I5 V rfl (I4.ext TL.mono (zT E'' (zT EM (qX V))))⟩
end
end Go.Proofs.YthphpbdmbmiaiaaGreat
namespace Go.Proofs.YthphpbdmbmiaiaaGreat
open Go Go.HL Go.Proofs Go.Wx Go.Rd
section
variable [Lvl]
set_option maxRecDepth 100000
def inN (out : List (List Int)) (f : Int) (k : Nat) : Nat := (out.take k).countP fun s => decide (f ∈ s)
def valB (n len : Nat) : Int := if n = len then 1 else if n = 0 then 2 else 3
def blameK (out : List (List Int)) (k : Nat) : List Int := (List.range k).map fun f : Nat => valB (inN out f out.length) out.length
theorem inN_succ {out : List (List Int)} {f : Int} {k : Nat} (hk : k < out.length) : inN out f (k + 1) = inN out f k + if f ∈ out[k] then 1 else 0 := by
 unfold inN
 rw [take_snoc hk, List.countP_append, List.countP_cons]
 simp
theorem inN_le (out : List (List Int)) (f : Int) (k : Nat) : inN out f k ≤ out.length := by
 unfold inN
 have := List.countP_le_length (p := fun s : List Int => decide (f ∈ s)) (l := out.take k)
 rw [List.length_take] at this
 omega
theorem blameK_succ (out : List (List Int)) (k : Nat) : blameK out (k + 1) = blameK out k ++ [valB (inN out k out.length) out.length] := by simp [blameK, List.range_succ]
end
end Go.Proofs.YthphpbdmbmiaiaaGreat
namespace Go.Proofs.YthphpbdmbmiaiaaGreat
open Go Go.HL Go.Proofs Go.Wx Go.Rd
section
variable [Lvl]
set_option maxRecDepth 100000
theorem explains_iff2 {m : MachP} (M : MOK m) {l : List FaultP} (hf : ∀ f ∈ l, FOK m f) {hs : List HeardP} (X : ∀ x ∈ hs, HeardOK m x) : explainsB m l hs = true ↔ ∀ x ∈ hs, listN (soundsB m l x.hand) 6 = x.sounds := by
 unfold explainsB
 rw [Bool.not_eq_true', List.any_eq_false]
 have s6 : ∀ x ∈ hs, SetOK x.sounds (6 : Nat) := fun x hx => ⟨fun z hz => by have := (X x hx).s.mem z hz; have := M.levers; omega, (X x hx).s.asc⟩
 constructor
 ·intro h x hx
  have h1 := h x hx
  unfold against at h1
  have h2 : soundsB m l x.hand = setM x.sounds := by
   have : ¬ ((soundsB m l x.hand : Nat) : Int) ≠ ((setM x.sounds : Nat) : Int) := by simpa using h1
   omega
  exact ((set_eq (s6 x hx) (snd_six M hf x.hand)).1 h2.symm).symm
 ·intro h x hx
  have h2 := (set_eq (s6 x hx) (snd_six M hf x.hand)).2 (h x hx).symm
  unfold against
  rw [show soundsB m l x.hand = setM x.sounds from h2.symm]
  simp
end
end Go.Proofs.YthphpbdmbmiaiaaGreat
namespace Go.Proofs.YthphpbdmbmiaiaaGreat
open Go Go.HL Go.Proofs Go.Wx Go.Rd
section
variable [Lvl]
set_option maxRecDepth 100000
def fewE (m : MachP) (hs : List HeardP) : Int := if checkHeardM m hs ≠ 0 then checkHeardM m hs else if (fewestL m hs).length = 0 then 11 else 0
def fewA (m : MachP) (hs : List HeardP) : List Int := if fewE m hs = 0 then (fewestL m hs).headD [] else []
def blamA (m : MachP) (hs : List HeardP) : List Int := if fewE m hs = 0 then blameK (fewestL m hs) (faultsM m).length else []
theorem faults24 {m : MachP} (M : MOK m) : 2 ≤ (faultsM m).length ∧ (faultsM m).length ≤ 24 := by
 have h1 := M.levers
 have h2 := M.pl
 have h3 := M.ll
 have := faults_len m
 omega
theorem fewJ_le {m : MachP} (M : MOK m) (hs : List HeardP) (j : Nat) : (fewJ m hs j).length ≤ 16777216 := by
 have h1 := chos_len (n := (faultsM m).length) j 0
 have h2 : 2 ^ ((faultsM m).length - 0) ≤ 2 ^ 24 := Nat.pow_le_pow_right (by omega) (by have := (faults24 M).2; omega)
 have h3 : (fewJ m hs j).length ≤ (chosM (faultsM m).length j 0).length := List.length_filter_le _ _
 omega
theorem fewest_le {m : MachP} (M : MOK m) (hs : List HeardP) : (fewestL m hs).length ≤ 16777216 ∧ ∀ s ∈ fewestL m hs, s.length ≤ 2 := by
 rw [fewest_eq hs (faults24 M).1]
 split
 ·exact ⟨fewJ_le M hs 0, fun s h => by rw [few_len s h]; omega⟩
 ·split
  ·exact ⟨fewJ_le M hs 1, fun s h => by rw [few_len s h]; omega⟩
  ·exact ⟨fewJ_le M hs 2, fun s h => by rw [few_len s h]; omega⟩
set_option maxHeartbeats 4000000 in
theorem FewestA_ok (hph : Lvl.ph = true) (m : MachP) (hs : List HeardP) (HN : HLen hs) (AB AQ AL AW UA : Option Addr) (cB cQ cL cW cU : Nat) (cs : List (List Value)) (h : AH) (RM : MachR h AB AQ AL AW m) (h0 : m.weights.length < 2 ^ 40) (R : Row h 3 id UA cs) (EL : Els h TU hs cs) :
  FnT Tryz.prog 16 #[machV AB AQ AL AW cB cQ cL cW m, .slice UA hs.length cU] h (fun v h' => ∃ L, v = .tuple #[L, .int .i64 (fewE m hs)] ∧ SlR h' 1 intC (fewA m hs) L) := by
 refine wM Tryz.func16 rfl Tryz.ntmps16 rfl ?_
 refine qE ?_
 refine qB rfl ?_
 refine zG (v := .agg #[.int .i64 _, .int .i64 _, .int .i64 _, .int .i64 _, .int .i64 _, .slice _ _ _, .slice _ _ _, .slice _ _ _, .slice _ _ _]) (cs := [_, _, _, _, _, _, _, _, _]) rfl rfl fun b2 hb2 => ?_
 refine qL [_] rfl ?_
 refine qA (qD (v := .slice _ _ _) rfl) ?_
 refine qA (qD (v := .int .i64 _) rfl) ?_
 refine qE ?_
 refine qE ?_
 refine qB rfl ?_
 refine qY 0 (vs := [.int .i64 _, .int .i64 _, .int .i64 _, .int .i64 _, .int .i64 _, .slice _ _ _, .slice _ _ _, .slice _ _ _, .slice _ _ _]) rfl rfl rfl rfl rfl ?_
 refine qA (qC (v := .slice _ _ _) rfl) ?_
 refine wJ (caps := []) (vs := [.agg #[.int .i64 _, .int .i64 _, .int .i64 _, .int .i64 _, .int .i64 _, .slice _ _ _, .slice _ _ _, .slice _ _ _, .slice _ _ _], .slice _ _ _]) rfl rfl rfl (checkHeard_ok m hs HN AB AQ AL AW UA cB cQ cL cW cU cs h (RM.ext (Ext.refl _)) h0 (R.ext (Ext.refl _)) (EL.ext TU.mono (Ext.refl _))) ?_
 rintro _ h3 E13 rfl
 refine qA (qD (v := .int .i64 _) rfl) ?_
 refine qE ?_
 refine qB rfl ?_
 refine qA (qC (v := .int .i64 _) rfl) ?_
 refine qA (qN (v := .bool _) rfl) ?_
 refine qU rfl (fun hc => ?_) (fun hc => ?_)
 ·skip
  have hc' : checkHeardM m hs ≠ 0 := by simpa using hc
  have eE : fewE m hs = checkHeardM m hs := by rw [fewE, if_pos hc']
  refine qE ?_
  refine qB rfl ?_
  refine qA (qC (v := .int .i64 _) rfl) ?_
  refine qA (qD (v := .slice _ _ _) rfl) ?_
  refine qA (qD (v := .int .i64 _) rfl) ?_
  refine qZ ?_
  refine qP (vs := [_, _]) Tryz.results16 ⟨qM rfl rfl, qM rfl rfl, trivial⟩ fun V => ?_
  exact ⟨(zT E13 (qX V)), _, by rw [eE]; rfl, none, 0, by rw [fewA, eE, if_neg hc']; rfl, by rw [fewA, eE, if_neg hc']; exact row_nil _ _⟩
 ·skip
  have hc' : checkHeardM m hs = 0 := by simpa using hc
  obtain ⟨M, hl5, X⟩ := checkHeard_zero hc'
  have f24 := faults24 M
  have fle := fewest_le M hs
  have mlv := M.levers
  have mpl := M.pl
  have mll := M.ll
  have L2 := fewest_ok hph m M f24.2 hs X (by omega) AB AQ AL AW UA cB cQ cL cW cU cs
  have eE : fewE m hs = if (fewestL m hs).length = 0 then 11 else 0 := by rw [fewE, if_neg (by simp [hc'])]
  obtain ⟨F, hF⟩ : ∃ F, F = fewestL m hs := ⟨_, rfl⟩
  rw [← hF] at L2 eE fle
  refine qR ?_
  refine qE ?_
  refine qB rfl ?_
  refine qY 0 (vs := [.int .i64 _, .int .i64 _, .int .i64 _, .int .i64 _, .int .i64 _, .slice _ _ _, .slice _ _ _, .slice _ _ _, .slice _ _ _]) rfl rfl rfl rfl rfl ?_
  refine qA (qC (v := .slice _ _ _) rfl) ?_
  refine wJ (caps := []) (vs := [.agg _, .slice _ _ _]) rfl rfl rfl (L2 h3 (RM.ext E13) (R.ext E13) (EL.ext TU.mono E13)) ?_
  rintro _ h4 E4 ⟨_, rfl, S4⟩
  obtain ⟨gs, A4, c4, rfl, R4, EL4⟩ := SlX.els S4
  refine qA (qC (v := .tuple #[.slice _ _ _, .bool _]) rfl) ?_
  refine qA (qN (v := .slice _ _ _) rfl) ?_
  refine qA (qN (v := .bool _) rfl) ?_
  refine qA (qD (v := .slice _ _ _) rfl) ?_
  refine qA (qD (v := .bool _) rfl) ?_
  refine qE ?_
  refine qE ?_
  refine qB rfl ?_
  refine qA (qC (v := .bool _) rfl) ?_
  refine qA (qN (v := .bool _) rfl) ?_
  refine qU rfl (fun hs0 => ?_) (fun hs0 => ?_)
  ·skip
   have h0' : F.length = 0 := by simp at hs0; simp [hs0]
   have eE0 : fewE m hs = 11 := by rw [eE, if_pos h0']
   refine qE ?_
   refine qB rfl ?_
   refine qA (qD (v := .slice _ _ _) rfl) ?_
   refine qA (qD (v := .int .i64 _) rfl) ?_
   refine qZ ?_
   refine qP (vs := [_, _]) Tryz.results16 ⟨qM rfl rfl, qM rfl rfl, trivial⟩ fun V => ?_
   exact ⟨(zT (zT E13 E4) (qX V)), _, by rw [eE0]; rfl, none, 0, by rw [fewA, eE0, if_neg (by decide)]; rfl, by rw [fewA, eE0, if_neg (by decide)]; exact row_nil _ _⟩
  ·skip
   have hne' : 0 < F.length := by
    rcases Nat.eq_zero_or_pos F.length with h | h
    ·rw [h] at hs0; simp at hs0
    ·exact h
   have eE0 : fewE m hs = 0 := by rw [eE, if_neg (by omega)]
   obtain ⟨hic, y0, e0, XA, cX, rfl, RX⟩ := EL4.at hne'
   obtain ⟨g, off, hA, hcc⟩ := R4.at (by omega) hic
   have hcc : Cells h4 g (off + 0 * 1) [.slice XA F[0].length cX] := by rw [← e0]; exact hcc
   have eA : fewA m hs = F[0] := by
    rw [fewA, if_pos eE0, ← hF]
    cases F with
    | nil => exact absurd hne' (by simp)
    | cons x F => rfl
   refine qR ?_
   refine qE ?_
   refine qB rfl ?_
   refine qA (qC (v := .slice _ _ _) rfl) ?_
   refine qA (wG (m := 1) rfl hA rfl rfl rfl (by omega) (by omega)) ?_
   refine wS (v := .slice _ _ _) rfl rfl ((hcc) 0 _ rfl) ?_
   refine qA (qD (v := .slice _ _ _) rfl) ?_
   refine qA (qD (v := .int .i64 _) rfl) ?_
   refine qZ ?_
   refine qP (vs := [_, _]) Tryz.results16 ⟨qM rfl rfl, qM rfl rfl, trivial⟩ fun V => ?_
   rw [eE0, eA]
   exact ⟨(zT (zT E13 E4) (qX V)), _, rfl, XA, cX, rfl, RX.ext (qX V)⟩
set_option maxHeartbeats 4000000 in
theorem BlameA_ok (hph : Lvl.ph = true) (m : MachP) (hs : List HeardP) (HN : HLen hs) (AB AQ AL AW UA : Option Addr) (cB cQ cL cW cU : Nat) (cs : List (List Value)) (h : AH) (RM : MachR h AB AQ AL AW m) (h0 : m.weights.length < 2 ^ 40) (R : Row h 3 id UA cs) (EL : Els h TU hs cs) :
  FnT Tryz.prog 18 #[machV AB AQ AL AW cB cQ cL cW m, .slice UA hs.length cU] h (fun v h' => ∃ L, v = .tuple #[L, .int .i64 (fewE m hs)] ∧ SlR h' 1 intC (blamA m hs) L) := by
 refine wM Tryz.func18 rfl Tryz.ntmps18 rfl ?_
 refine qE ?_
 refine qB rfl ?_
 refine zG (v := .agg #[.int .i64 _, .int .i64 _, .int .i64 _, .int .i64 _, .int .i64 _, .slice _ _ _, .slice _ _ _, .slice _ _ _, .slice _ _ _]) (cs := [_, _, _, _, _, _, _, _, _]) rfl rfl fun b2 hb2 => ?_
 refine qL [_] rfl ?_
 refine qA (qD (v := .slice _ _ _) rfl) ?_
 refine qA (qD (v := .int .i64 _) rfl) ?_
 refine qE ?_
 refine qE ?_
 refine qB rfl ?_
 refine qY 0 (vs := [.int .i64 _, .int .i64 _, .int .i64 _, .int .i64 _, .int .i64 _, .slice _ _ _, .slice _ _ _, .slice _ _ _, .slice _ _ _]) rfl rfl rfl rfl rfl ?_
 refine qA (qC (v := .slice _ _ _) rfl) ?_
 refine wJ (caps := []) (vs := [.agg #[.int .i64 _, .int .i64 _, .int .i64 _, .int .i64 _, .int .i64 _, .slice _ _ _, .slice _ _ _, .slice _ _ _, .slice _ _ _], .slice _ _ _]) rfl rfl rfl (checkHeard_ok m hs HN AB AQ AL AW UA cB cQ cL cW cU cs h (RM.ext (Ext.refl _)) h0 (R.ext (Ext.refl _)) (EL.ext TU.mono (Ext.refl _))) ?_
 rintro _ h3 E13 rfl
 refine qA (qD (v := .int .i64 _) rfl) ?_
 refine qE ?_
 refine qB rfl ?_
 refine qA (qC (v := .int .i64 _) rfl) ?_
 refine qA (qN (v := .bool _) rfl) ?_
 refine qU rfl (fun hc => ?_) (fun hc => ?_)
 ·skip
  have hc' : checkHeardM m hs ≠ 0 := by simpa using hc
  have eE : fewE m hs = checkHeardM m hs := by rw [fewE, if_pos hc']
  refine qE ?_
  refine qB rfl ?_
  refine qA (qC (v := .int .i64 _) rfl) ?_
  refine qA (qD (v := .slice _ _ _) rfl) ?_
  refine qA (qD (v := .int .i64 _) rfl) ?_
  refine qZ ?_
  refine qP (vs := [_, _]) Tryz.results18 ⟨qM rfl rfl, qM rfl rfl, trivial⟩ fun V => ?_
  exact ⟨(zT E13 (qX V)), _, by rw [eE]; rfl, none, 0, by rw [blamA, eE, if_neg hc']; rfl, by rw [blamA, eE, if_neg hc']; exact row_nil _ _⟩
 ·skip
  have hc' : checkHeardM m hs = 0 := by simpa using hc
  obtain ⟨M, hl5, X⟩ := checkHeard_zero hc'
  have f24 := faults24 M
  have fle := fewest_le M hs
  have mlv := M.levers
  have mpl := M.pl
  have mll := M.ll
  have L2 := fewest_ok hph m M f24.2 hs X (by omega) AB AQ AL AW UA cB cQ cL cW cU cs
  have eE : fewE m hs = if (fewestL m hs).length = 0 then 11 else 0 := by rw [fewE, if_neg (by simp [hc'])]
  obtain ⟨F, hF⟩ : ∃ F, F = fewestL m hs := ⟨_, rfl⟩
  rw [← hF] at L2 eE fle
  refine qR ?_
  refine qE ?_
  refine qB rfl ?_
  refine qY 0 (vs := [.int .i64 _, .int .i64 _, .int .i64 _, .int .i64 _, .int .i64 _, .slice _ _ _, .slice _ _ _, .slice _ _ _, .slice _ _ _]) rfl rfl rfl rfl rfl ?_
  refine qA (qC (v := .slice _ _ _) rfl) ?_
  refine wJ (caps := []) (vs := [.agg _, .slice _ _ _]) rfl rfl rfl (L2 h3 (RM.ext E13) (R.ext E13) (EL.ext TU.mono E13)) ?_
  rintro _ h4 E4 ⟨_, rfl, S4⟩
  obtain ⟨gs, A4, c4, rfl, R4, EL4⟩ := SlX.els S4
  refine qA (qC (v := .tuple #[.slice _ _ _, .bool _]) rfl) ?_
  refine qA (qN (v := .slice _ _ _) rfl) ?_
  refine qA (qN (v := .bool _) rfl) ?_
  refine qA (qD (v := .slice _ _ _) rfl) ?_
  refine qA (qD (v := .bool _) rfl) ?_
  refine qE ?_
  refine qE ?_
  refine qB rfl ?_
  refine qA (qC (v := .bool _) rfl) ?_
  refine qA (qN (v := .bool _) rfl) ?_
  refine qU rfl (fun hs0 => ?_) (fun hs0 => ?_)
  ·skip
   have h0' : F.length = 0 := by simp at hs0; simp [hs0]
   have eE0 : fewE m hs = 11 := by rw [eE, if_pos h0']
   refine qE ?_
   refine qB rfl ?_
   refine qA (qD (v := .slice _ _ _) rfl) ?_
   refine qA (qD (v := .int .i64 _) rfl) ?_
   refine qZ ?_
   refine qP (vs := [_, _]) Tryz.results18 ⟨qM rfl rfl, qM rfl rfl, trivial⟩ fun V => ?_
   exact ⟨(zT (zT E13 E4) (qX V)), _, by rw [eE0]; rfl, none, 0, by rw [blamA, eE0, if_neg (by decide)]; rfl, by rw [blamA, eE0, if_neg (by decide)]; exact row_nil _ _⟩
  ·skip
   have hne' : 0 < F.length := by
    rcases Nat.eq_zero_or_pos F.length with h | h
    ·rw [h] at hs0; simp at hs0
    ·exact h
   have eE0 : fewE m hs = 0 := by rw [eE, if_neg (by omega)]
   have hsz : ∀ s ∈ F, s.length < 2 ^ 40 := fun s h => by have := fle.2 s h; omega
   refine qR ?_
   refine goes_more ?_
   refine qT [_, _] rfl ?_
   refine qE ?_
   refine qB rfl ?_
   refine qA (qD (v := .slice _ _ _) rfl) ?_
   refine qE ?_
   refine qE ?_
   refine qB rfl ?_
   refine qY 0 (vs := [.int .i64 _, .int .i64 _, .int .i64 _, .int .i64 _, .int .i64 _, .slice _ _ _, .slice _ _ _, .slice _ _ _, .slice _ _ _]) rfl rfl rfl rfl rfl ?_
   refine wJ (caps := []) (vs := [.agg #[.int .i64 _, .int .i64 _, .int .i64 _, .int .i64 _, .int .i64 _, .slice _ _ _, .slice _ _ _, .slice _ _ _, .slice _ _ _]]) rfl rfl rfl (faults_ok m (by omega) (by omega) (by omega) AB AQ AL AW cB cQ cL cW h4) ?_
   rintro _ h5 E5 ⟨FA, cF, rfl, RF⟩
   refine qA (wK rfl rfl) ?_
   refine qA (qC (v := .int .i64 _) rfl) ?_
   refine qQ ?_
   refine zH [9, 10, 11, 13, 31, 32, 33, 34, 35, 36, 37, 38, 39, 40, 41, 42, 43, 44, 45, 46, 47, 48, 49, 50, 51, 52, 53, 54, 55, 56, 57, 58, 59, 60, 61, 62] 2 (α := Nat × Acc) (fun ⟨k, a⟩ => [(31, .int .i64 k), (9, .slice a.A a.n a.c)]) (fun ⟨k, a⟩ L => L.set 1 (a.p)) (fun ⟨k, a⟩ h_k => k ≤ (faultsM m).length ∧ AccR 3 1 ((blameK F k).flatMap intC) a) (fun ⟨k, a⟩ => (faultsM m).length - k) ((0, acc0)) ⟨rfl, rfl, trivial⟩ (rfl) (⟨Nat.zero_le _, accR0⟩) ?_
   rintro ⟨k, a⟩ T1 h_k E_k J_k
   refine qT [_, _] rfl ?_
   obtain ⟨K1, K2⟩ := J_k
   refine qE ?_
   refine qB rfl ?_
   refine qA (qN (v := .bool _) rfl) ?_
   refine qE ?_
   refine qU rfl (fun hk => ?_) (fun hk => ?_)
   ·skip
    have hkl : k < (faultsM m).length := ltI hk
    have hbl : (blameK F k).length = k := by simp [blameK]
    have hile := inN_le F (k : Int) F.length
    refine qR ?_
    refine qE ?_
    refine qQ ?_
    refine qE ?_
    refine qB rfl ?_
    refine qA (qC (v := .int .i64 _) rfl) ?_
    refine qA (qD (v := .int .i64 _) rfl) ?_
    refine qE ?_
    refine qB rfl ?_
    refine qA (qD (v := .int .i64 _) rfl) ?_
    refine qE ?_
    refine qE ?_
    refine qB rfl ?_
    refine qA (qC (v := .slice _ _ _) rfl) ?_
    refine qA (wK rfl rfl) ?_
    refine qA (qC (v := .int .i64 _) rfl) ?_
    refine qQ ?_
    refine zP [11, 13, 36, 37, 38, 39, 40, 41, 42, 43, 44, 45] 2 (α := Nat) (fun q => [(36, .int .i64 q), (11, .int .i64 (inN F (k : Int) q : Nat))]) (fun q => _) (fun q h_q => q ≤ F.length) (fun q => F.length - q) (0) ⟨rfl, rfl, trivial⟩ (rfl) (Nat.zero_le _) ?_
    rintro q T2 h_q E_q J_q
    refine qT [_, _] rfl ?_
    refine qE ?_
    refine qB rfl ?_
    refine qA (qN (v := .bool _) rfl) ?_
    refine qE ?_
    refine qU rfl (fun hq => ?_) (fun hq => ?_)
    ·skip
     have hql : q < F.length := ltI hq
     have hst := inN_succ (f := (k : Int)) hql
     have hle := inN_le F (k : Int) q
     obtain ⟨hic, y0, e0, XA, cX, rfl, RX⟩ := (EL4.ext TL.mono (zT (zT E5 E_k) E_q)).at hql
     obtain ⟨g, off, hA, hc⟩ := (R4.ext (zT (zT E5 E_k) E_q)).at (by omega) hic
     have hc : Cells h_q g (off + q * 1) [.slice XA F[q].length cX] := by rw [← e0]; exact hc
     refine qR ?_
     refine qE ?_
     refine qQ ?_
     refine qE ?_
     refine qB rfl ?_
     refine qA (wG (m := 1) rfl hA rfl rfl rfl (by omega) (by omega)) ?_
     refine wS (v := .slice _ _ _) rfl rfl ((hc) 0 _ rfl) ?_
     refine qA (qD (v := .slice _ _ _) rfl) ?_
     refine qE ?_
     refine qB rfl ?_
     refine qA (qC (v := .slice _ _ _) rfl) ?_
     refine qA (qC (v := .int .i64 _) rfl) ?_
     refine wJ (caps := []) (vs := [.slice _ _ _, .int .i64 _]) rfl rfl rfl (contains_ok F[q] k XA cX h_q RX (hsz _ (List.getElem_mem hql))) ?_
     rintro _ h6 E6 rfl
     refine qU rfl (fun hi => ?_) (fun hi => ?_)
     ·skip
      rw [if_pos (of_decide_eq_true hi)] at hst
      refine qB rfl ?_
      refine qA (qC (v := .int .i64 _) rfl) ?_
      refine qA (qS rfl (by omega)) ?_
      refine qA (qD (v := .int .i64 _) rfl) ?_
      refine qB rfl ?_
      refine qA (qS rfl (by omega)) ?_
      refine qA (qC (v := .int .i64 _) rfl) ?_
      refine ⟨q + 1, ⟨rfl, intE (by rw [hst]; omega), trivial⟩, rfl, rfl, (zT E_q E6), fun h3 E3 => hql, by first | omega | (dsimp only; omega), ?_⟩
      repeat (first | exact qW _ _ _ | refine wD (by decide) ?_ | refine qV rfl ?_ | refine wE rfl ?_)
     ·skip
      rw [if_neg (of_decide_eq_false hi)] at hst
      refine qR ?_
      refine qB rfl ?_
      refine qA (qS rfl (by omega)) ?_
      refine qA (qC (v := .int .i64 _) rfl) ?_
      refine ⟨q + 1, ⟨rfl, intE (by rw [hst]; omega), trivial⟩, rfl, rfl, (zT E_q E6), fun h3 E3 => hql, by first | omega | (dsimp only; omega), ?_⟩
      repeat (first | exact qW _ _ _ | refine wD (by decide) ?_ | refine qV rfl ?_ | refine wE rfl ?_)
    ·skip
     have hqe : q = F.length := by have := geI hq; omega
     subst hqe
     have hbs := blameK_succ F k
     refine wV ?_
     refine qE ?_
     refine qB rfl ?_
     refine qA (qC (v := .int .i64 _) rfl) ?_
     refine qQ ?_
     refine qE ?_
     refine qB rfl ?_
     refine qA (qC (v := .slice _ _ _) rfl) ?_
     refine qA (wK rfl rfl) ?_
     refine qA (qN (v := .bool _) rfl) ?_
     refine qA (qD (v := .bool _) rfl) ?_
     refine qU rfl (fun h1 => ?_) (fun h1 => ?_)
     ·skip
      have h1' : inN F (k : Int) F.length = F.length := by simp at h1; omega
      rw [valB, if_pos h1'] at hbs
      refine qB rfl ?_
      refine qA (qC (v := .slice _ _ _) rfl) ?_
      refine wA (zc := [_]) (vs := [(0, .int .i64 _)]) (cs := [_]) rfl rfl rfl rfl rfl rfl rfl fun b55 hb55 => ?_
      refine qL [_, _, _] rfl ?_
      refine wZ 1 K2 rfl rfl rfl (fun V => rdP V (i := 2) rfl) rfl rfl rfl rfl rfl rfl rfl rfl rfl (by omega) rfl (by rw [wN (m := 1) (fun _ _ => rfl), hbl]; simp; omega) fun a2 h3a E3a ha2 => ?_
      refine qL [_, _, _] rfl ?_
      refine qA (qD (v := .slice _ _ _) rfl) ?_
      refine qB rfl ?_
      refine qA (qS rfl (by omega)) ?_
      refine qA (qC (v := .int .i64 _) rfl) ?_
      refine ⟨(k + 1, a2), ⟨rfl, rfl, trivial⟩, rfl, rfl, (zT (zT E_k E_q) E3a), fun h3 E3 => ⟨hkl, by rw [hbs, List.flatMap_append]; exact ha2⟩, by first | omega | (dsimp only; omega), ?_⟩
      repeat (first | exact qW _ _ _ | refine wD (by decide) ?_ | refine qV rfl ?_ | refine wE rfl ?_)
     ·skip
      have h1' : ¬ inN F (k : Int) F.length = F.length := by simp at h1; omega
      rw [valB, if_neg h1'] at hbs
      refine qE ?_
      refine qB rfl ?_
      refine qA (qN (v := .bool _) rfl) ?_
      refine qA (qD (v := .bool _) rfl) ?_
      refine qU rfl (fun h2 => ?_) (fun h2 => ?_)
      ·skip
       have h2' : inN F (k : Int) F.length = 0 := by simp at h2; omega
       rw [if_pos h2'] at hbs
       refine qB rfl ?_
       refine qA (qC (v := .slice _ _ _) rfl) ?_
       refine wA (zc := [_]) (vs := [(0, .int .i64 _)]) (cs := [_]) rfl rfl rfl rfl rfl rfl rfl fun b60 hb60 => ?_
       refine qL [_, _, _] rfl ?_
       refine wZ 1 K2 rfl rfl rfl (fun V => rdP V (i := 2) rfl) rfl rfl rfl rfl rfl rfl rfl rfl rfl (by omega) rfl (by rw [wN (m := 1) (fun _ _ => rfl), hbl]; simp; omega) fun a2 h4a E4a ha2 => ?_
       refine qL [_, _, _] rfl ?_
       refine qA (qD (v := .slice _ _ _) rfl) ?_
       refine qB rfl ?_
       refine qA (qS rfl (by omega)) ?_
       refine qA (qC (v := .int .i64 _) rfl) ?_
       refine ⟨(k + 1, a2), ⟨rfl, rfl, trivial⟩, rfl, rfl, (zT (zT E_k E_q) E4a), fun h3 E3 => ⟨hkl, by rw [hbs, List.flatMap_append]; exact ha2⟩, by first | omega | (dsimp only; omega), ?_⟩
       repeat (first | exact qW _ _ _ | refine wD (by decide) ?_ | refine qV rfl ?_ | refine wE rfl ?_)
      ·skip
       have h2' : ¬ inN F (k : Int) F.length = 0 := by simp at h2; omega
       rw [if_neg h2'] at hbs
       refine qB rfl ?_
       refine qA (qC (v := .slice _ _ _) rfl) ?_
       refine wA (zc := [_]) (vs := [(0, .int .i64 _)]) (cs := [_]) rfl rfl rfl rfl rfl rfl rfl fun b48 hb48 => ?_
       refine qL [_, _, _] rfl ?_
       refine wZ 1 K2 rfl rfl rfl (fun V => rdP V (i := 2) rfl) rfl rfl rfl rfl rfl rfl rfl rfl rfl (by omega) rfl (by rw [wN (m := 1) (fun _ _ => rfl), hbl]; simp; omega) fun a2 h5a E5a ha2 => ?_
       refine qL [_, _, _] rfl ?_
       refine qA (qD (v := .slice _ _ _) rfl) ?_
       refine qB rfl ?_
       refine qA (qS rfl (by omega)) ?_
       refine qA (qC (v := .int .i64 _) rfl) ?_
       refine ⟨(k + 1, a2), ⟨rfl, rfl, trivial⟩, rfl, rfl, (zT (zT E_k E_q) E5a), fun h3 E3 => ⟨hkl, by rw [hbs, List.flatMap_append]; exact ha2⟩, by first | omega | (dsimp only; omega), ?_⟩
       repeat (first | exact qW _ _ _ | refine wD (by decide) ?_ | refine qV rfl ?_ | refine wE rfl ?_)
   ·skip
    have hke : k = (faultsM m).length := by have := geI hk; omega
    subst hke
    refine wV ?_
    refine qE ?_
    refine qB rfl ?_
    refine qA (qC (v := .slice _ _ _) rfl) ?_
    refine qA (qD (v := .slice _ _ _) rfl) ?_
    refine qA (qD (v := .int .i64 _) rfl) ?_
    refine qZ ?_
    refine qP (vs := [_, _]) Tryz.results18 ⟨qM rfl rfl, qM rfl rfl, trivial⟩ fun V => ?_
    rw [eE0, blamA, eE0, if_pos rfl, ← hF]
    exact ⟨(zT (zT (zT (zT E13 E4) E5) E_k) (qX V)), _, rfl, AccP.row (i := 1) K2 (by omega) (fun _ _ => rfl) V rfl⟩
end
end Go.Proofs.YthphpbdmbmiaiaaGreat
namespace Go.Proofs.YthphpbdmbmiaiaaGreat
open Go Go.HL Go.Proofs Go.Wx Go.Rd
section
variable [Lvl]
set_option maxRecDepth 100000
def pk3 (m : MachP) : Int := if m.links.length > 4 then 6 else firstErr (checkLinkM m) m.links
def pk2 (m : MachP) : Int := if m.pins.length > 8 then 6 else if firstErr (checkPinM m) m.pins ≠ 0 then firstErr (checkPinM m) m.pins else pk3 m
def pk1 (m : MachP) : Int := if m.buttons.length > 4 then 6 else if firstErr (checkButtonM m) m.buttons ≠ 0 then firstErr (checkButtonM m) m.buttons else pk2 m
theorem pk_chk (m : MachP) : chk1 m = if pk1 m ≠ 0 then pk1 m else chk4 m := by
 unfold chk1 chk2 chk3 pk1 pk2 pk3
 by_cases a1 : m.buttons.length > 4
 ·simp only [if_pos a1]; rfl
 simp only [if_neg a1]
 by_cases a2 : firstErr (checkButtonM m) m.buttons ≠ 0
 ·simp only [if_pos a2]
 simp only [if_neg a2]
 by_cases a3 : m.pins.length > 8
 ·simp only [if_pos a3]; rfl
 simp only [if_neg a3]
 by_cases a4 : firstErr (checkPinM m) m.pins ≠ 0
 ·simp only [if_pos a4]
 simp only [if_neg a4]
 by_cases a5 : m.links.length > 4
 ·simp only [if_pos a5]; rfl
 simp only [if_neg a5]
set_option maxHeartbeats 4000000 in
theorem checkPartsG_ok (m : MachP) (b1 : 1 ≤ m.rods ∧ m.rods ≤ 6) (b2 : 1 ≤ m.levers ∧ m.levers ≤ 6) (b3 : 0 ≤ m.regs ∧ m.regs ≤ 2) (b4 : 1 ≤ m.travel ∧ m.travel ≤ 12) (AB AQ AL AW : Option Addr) (cB cQ cL cW : Nat) (h : AH) (R : MachR h AB AQ AL AW m) (h0 : m.buttons.length < 2 ^ 40) (h1 : m.pins.length < 2 ^ 40) (h2 : m.links.length < 2 ^ 40) :
  FnT Tryz.prog 86 #[machV AB AQ AL AW cB cQ cL cW m] h (fun v _ => v = .int .i64 (pk1 m)) := by
 refine wM Tryz.func86 rfl Tryz.ntmps86 rfl ?_
 refine qE ?_
 refine qB rfl ?_
 refine zG (v := .agg #[.int .i64 _, .int .i64 _, .int .i64 _, .int .i64 _, .int .i64 _, .slice _ _ _, .slice _ _ _, .slice _ _ _, .slice _ _ _]) (cs := [_, _, _, _, _, _, _, _, _]) rfl rfl fun b1 hb1 => ?_
 refine qL [_] rfl ?_
 refine qA (qD (v := .int .i64 _) rfl) ?_
 refine qE ?_
 refine qE ?_
 refine qB rfl ?_
 refine qA (qF rfl rfl rfl rfl 5 rfl) ?_
 refine qJ 0 (v := .slice _ _ _) rfl rfl rfl rfl ?_
 refine qA (wK rfl rfl) ?_
 refine qA (qN (v := .bool _) rfl) ?_
 refine qU rfl (fun hb => ?_) (fun hb => ?_)
 ·skip
  have hb' : 4 < m.buttons.length := by simp at hb; omega
  refine qE ?_
  refine qB rfl ?_
  refine qA (qD (v := .int .i64 _) rfl) ?_
  refine qZ ?_
  refine qP (vs := [_]) Tryz.results86 ⟨qM rfl rfl, trivial⟩ fun V => ?_
  exact ⟨(qX V), intE (by rw [pk1, if_pos hb'])⟩
 ·skip
  have hb' : ¬ 4 < m.buttons.length := by simp at hb; omega
  refine qR ?_
  refine qE ?_
  refine qE ?_
  refine qB rfl ?_
  refine qA (qD (v := .int .i64 _) rfl) ?_
  refine qQ ?_
  refine zP [2, 3, 12, 13, 14, 15, 16, 17, 18, 19, 20, 21, 22, 23, 24, 25, 26, 27, 28] 1 (α := Nat) (fun k => [(3, .int .i64 k)]) (fun k => _) (fun k h_k => k ≤ m.buttons.length ∧ firstErr (checkButtonM m) (m.buttons.take k) = 0) (fun k => m.buttons.length - k) (0) ⟨rfl, trivial⟩ (rfl) (⟨Nat.zero_le _, rfl⟩) ?_
  rintro k T1 h_k E_k J_k
  refine qT [_] rfl ?_
  obtain ⟨K1, K2⟩ := J_k
  refine qE ?_
  refine qE ?_
  refine qB rfl ?_
  refine qA (qC (v := .int .i64 _) rfl) ?_
  refine qA (qF rfl rfl rfl rfl 5 rfl) ?_
  refine qJ 0 (v := .slice _ _ _) rfl rfl rfl rfl ?_
  refine qA (wK rfl rfl) ?_
  refine qA (qN (v := .bool _) rfl) ?_
  refine qU rfl (fun hk => ?_) (fun hk => ?_)
  ·skip
   have hkl : k < m.buttons.length := ltI hk
   obtain ⟨g, off, hA, hc⟩ := (R.b.ext E_k).at (by omega) hkl
   refine qR ?_
   refine qE ?_
   refine qQ ?_
   refine qE ?_
   refine xp_dw [] rfl rfl rfl ?_
   refine qI (i := 0) rfl (by decide +kernel) (qF rfl rfl rfl rfl 5 rfl) ?_
   refine wH (i := 1) rfl (by decide +kernel) ?_
   refine qJ 0 (v := .slice _ _ _) rfl rfl rfl rfl ?_
   refine qI (i := 2) rfl (by decide +kernel) (qC (v := .int .i64 _) rfl) ?_
   refine qI (i := 3) rfl (by decide +kernel) (wG rfl hA rfl rfl rfl (by omega) (by omega)) ?_
   refine wH (i := 4) rfl (by decide +kernel) ?_
   refine wS (v := .int .i64 _) rfl rfl ((hc) 0 _ rfl) ?_
   refine qI (i := 5) rfl (by decide +kernel) (qF rfl rfl rfl rfl 0 rfl) ?_
   refine wH (i := 6) rfl (by decide +kernel) ?_
   refine qJ 0 (v := .int .i64 _) rfl rfl rfl rfl ?_
   refine qI (i := 7) rfl (by decide +kernel) (qS rfl (by omega)) ?_
   refine zA (i := 8) rfl (by decide +kernel) (by decide +kernel) ?_
   refine wJ (caps := []) (vs := [.int .i64 _, .int .i64 _, .int .i64 _]) rfl rfl rfl (among_ok _ _ _ h_k) ?_
   rintro _ h1 E1 rfl
   refine qI (i := 9) rfl (by decide +kernel) (qN (v := .bool _) rfl) ?_
   refine zN rfl ?_
   refine qU rfl (fun hw => ?_) (fun hw => ?_)
   ·skip
    have ew : checkButtonM m m.buttons[k] = 3 := by rw [checkButtonM, if_pos hw]
    refine qE ?_
    refine qB rfl ?_
    refine qA (qD (v := .int .i64 _) rfl) ?_
    refine qZ ?_
    refine qP (vs := [_]) Tryz.results86 ⟨qM rfl rfl, trivial⟩ fun V => ?_
    refine ⟨(zT (zT E_k E1) (qX V)), intE ?_⟩
    have ef := zM hkl K2 (by rw [ew]; decide)
    rw [ew] at ef
    rw [pk1, if_neg hb', if_pos (by rw [ef]; decide), ef]
   ·skip
    refine qR ?_
    refine qB rfl ?_
    refine qA (qC (v := .int .i64 _) rfl) ?_
    refine qA (qS rfl (by omega)) ?_
    refine qA (qD (v := .int .i64 _) rfl) ?_
    refine ⟨k + 1, ⟨rfl, trivial⟩, rfl, rfl, (zT E_k E1), fun h3 E3 => ⟨hkl, firstErr_go hkl K2 (by rw [checkButtonM, if_neg (by simpa using hw)])⟩, by first | omega | (dsimp only; omega), ?_⟩
    repeat (first | exact qW _ _ _ | refine wD (by decide) ?_ | refine qV rfl ?_ | refine wE rfl ?_)
  ·skip
   have hke : k = m.buttons.length := by have := geI hk; omega
   subst hke
   rw [List.take_length] at K2
   have C2 : pk1 m = pk2 m := by rw [pk1, if_neg hb', if_neg (by simp [K2])]
   refine wV ?_
   refine qE ?_
   refine qE ?_
   refine qB rfl ?_
   refine qA (qF rfl rfl rfl rfl 6 rfl) ?_
   refine qJ 0 (v := .slice _ _ _) rfl rfl rfl rfl ?_
   refine qA (wK rfl rfl) ?_
   refine qA (qN (v := .bool _) rfl) ?_
   refine qU rfl (fun hq => ?_) (fun hq => ?_)
   ·skip
    refine qE ?_
    refine qB rfl ?_
    refine qA (qD (v := .int .i64 _) rfl) ?_
    refine qZ ?_
    refine qP (vs := [_]) Tryz.results86 ⟨qM rfl rfl, trivial⟩ fun V => ?_
    have hq' : 8 < m.pins.length := by simp at hq; omega
    exact ⟨(zT E_k (qX V)), intE (by rw [C2, pk2, if_pos hq'])⟩
   ·skip
    have hq' : ¬ 8 < m.pins.length := by simp at hq; omega
    refine qR ?_
    refine qE ?_
    refine qE ?_
    refine qB rfl ?_
    refine qA (qD (v := .int .i64 _) rfl) ?_
    refine qQ ?_
    refine zP [2, 4, 5, 33, 34, 35, 36, 37, 38, 39, 40, 41, 42, 43, 44, 45, 46, 47, 48, 49, 50, 51, 52, 53, 54, 55, 56, 57, 58, 59, 60, 61, 62, 63, 64, 65, 66] 1 (α := Nat) (fun j => [(4, .int .i64 j)]) (fun j => _) (fun j h_j => j ≤ m.pins.length ∧ firstErr (checkPinM m) (m.pins.take j) = 0) (fun j => m.pins.length - j) (0) ⟨rfl, trivial⟩ (rfl) (⟨Nat.zero_le _, rfl⟩) ?_
    rintro j T2 h_j E_j J_j
    refine qT [_] rfl ?_
    obtain ⟨P1, P2⟩ := J_j
    refine qE ?_
    refine qE ?_
    refine qB rfl ?_
    refine qA (qC (v := .int .i64 _) rfl) ?_
    refine qA (qF rfl rfl rfl rfl 6 rfl) ?_
    refine qJ 0 (v := .slice _ _ _) rfl rfl rfl rfl ?_
    refine qA (wK rfl rfl) ?_
    refine qA (qN (v := .bool _) rfl) ?_
    refine qU rfl (fun hk2 => ?_) (fun hk2 => ?_)
    ·skip
     have hkl : j < m.pins.length := ltI hk2
     obtain ⟨g, off, hA, hc⟩ := (R.q.ext (zT E_k E_j)).at (by omega) hkl
     refine qR ?_
     refine qE ?_
     refine qQ ?_
     refine qE ?_
     refine qB rfl ?_
     refine qA (qF rfl rfl rfl rfl 6 rfl) ?_
     refine qJ 0 (v := .slice _ _ _) rfl rfl rfl rfl ?_
     refine qA (qC (v := .int .i64 _) rfl) ?_
     refine qA (wG rfl hA rfl rfl rfl (by omega) (by omega)) ?_
     refine zK rfl rfl rfl rfl (hc) ?_
     refine zF (cs := [_, _, _]) rfl rfl fun b5 hb5 => ?_
     refine qL [_, _] rfl ?_
     refine wI 1 (v := .agg #[.int .i64 _, .int .i64 _, .int .i64 _]) (vs := [_, _, _]) (c' := [_, _, _]) rfl rfl rfl rfl rfl rfl rfl rfl rfl ?_
     refine qL [_, _] rfl ?_
     refine qE ?_
     refine qE ?_
     refine qB rfl ?_
     refine qA (qF rfl rfl rfl rfl 0 rfl) ?_
     refine qJ 1 (v := .int .i64 _) rfl rfl rfl rfl ?_
     refine qA (qF rfl rfl rfl rfl 0 rfl) ?_
     refine qJ 0 (v := .int .i64 _) rfl rfl rfl rfl ?_
     refine qA (qS rfl (by omega)) ?_
     refine wJ (caps := []) (vs := [.int .i64 _, .int .i64 _, .int .i64 _]) rfl rfl rfl (among_ok _ _ _ h_j) ?_
     rintro _ h1 E1 rfl
     rcases Bool.eq_false_or_eq_true (inM m.pins[j].rod 0 (m.rods - 1)) with e1 | e1
     ·skip
      have e1' : (!inM m.pins[j].rod 0 (m.rods - 1)) = false := by rw [e1]; rfl
      refine qA (qN (v := .bool _) rfl) ?_
      refine qA (qC (v := .bool _) rfl) ?_
      refine qG rfl e1' ?_
      refine qA (qF rfl rfl rfl rfl 1 rfl) ?_
      refine qG rfl e1' ?_
      refine qJ 1 (v := .int .i64 _) rfl rfl rfl rfl ?_
      refine qG rfl e1' ?_
      refine qA (qF rfl rfl rfl rfl 1 rfl) ?_
      refine qG rfl e1' ?_
      refine qJ 0 (v := .int .i64 _) rfl rfl rfl rfl ?_
      refine qG rfl e1' ?_
      refine qA (qS rfl (by omega)) ?_
      refine qG rfl e1' ?_
      refine wJ (caps := []) (vs := [.int .i64 _, .int .i64 _, .int .i64 _]) rfl rfl rfl (among_ok _ _ _ h1) ?_
      rintro _ h2 E2 rfl
      refine qG rfl e1' ?_
      refine qA (qN (v := .bool _) rfl) ?_
      refine qA (wT rfl e1' (v := .bool _) rfl) ?_
      refine qU rfl (fun hw => ?_) (fun hw => ?_)
      ·skip
       have ew : checkPinM m m.pins[j] = 3 := by rw [checkPinM, if_neg (by rw [e1']; decide), if_pos hw]
       refine qE ?_
       refine qB rfl ?_
       refine qA (qD (v := .int .i64 _) rfl) ?_
       refine qZ ?_
       refine qP (vs := [_]) Tryz.results86 ⟨qM rfl rfl, trivial⟩ fun V => ?_
       refine ⟨(zT (zT (zT (zT E_k E_j) E1) E2) (qX V)), intE ?_⟩
       have ef := zM hkl P2 (by rw [ew]; decide)
       rw [ew] at ef
       rw [C2, pk2, if_neg hq', if_pos (by rw [ef]; decide), ef]
      ·skip
       refine qR ?_
       refine qE ?_
       refine qB rfl ?_
       refine qA (qF rfl rfl rfl rfl 2 rfl) ?_
       refine qJ 1 (v := .int .i64 _) rfl rfl rfl rfl ?_
       refine qA (qF rfl rfl rfl rfl 3 rfl) ?_
       refine qJ 0 (v := .int .i64 _) rfl rfl rfl rfl ?_
       refine wJ (caps := []) (vs := [.int .i64 _, .int .i64 _, .int .i64 _]) rfl rfl rfl (among_ok _ _ _ h2) ?_
       rintro _ h3 E3 rfl
       refine qA (qN (v := .bool _) rfl) ?_
       refine qU rfl (fun hw2 => ?_) (fun hw2 => ?_)
       ·skip
        have ew : checkPinM m m.pins[j] = 1 := by rw [checkPinM, if_neg (by rw [e1']; decide), if_neg (by rw [hw]; decide), if_pos hw2]
        refine qE ?_
        refine qB rfl ?_
        refine qA (qD (v := .int .i64 _) rfl) ?_
        refine qZ ?_
        refine qP (vs := [_]) Tryz.results86 ⟨qM rfl rfl, trivial⟩ fun V => ?_
        refine ⟨(zT (zT (zT (zT (zT E_k E_j) E1) E2) E3) (qX V)), intE ?_⟩
        have ef := zM hkl P2 (by rw [ew]; decide)
        rw [ew] at ef
        rw [C2, pk2, if_neg hq', if_pos (by rw [ef]; decide), ef]
       ·skip
        refine qR ?_
        refine qB rfl ?_
        refine qA (qC (v := .int .i64 _) rfl) ?_
        refine qA (qS rfl (by omega)) ?_
        refine qA (qD (v := .int .i64 _) rfl) ?_
        refine ⟨j + 1, ⟨rfl, trivial⟩, rfl, rfl, (zT (zT (zT E_j E1) E2) E3), fun h3 E3 => ⟨hkl, firstErr_go hkl P2 (by rw [checkPinM, if_neg (by rw [e1']; decide), if_neg (by rw [hw]; decide), if_neg (by rw [hw2]; decide)])⟩, by first | omega | (dsimp only; omega), ?_⟩
        repeat (first | exact qW _ _ _ | refine wD (by decide) ?_ | refine qV rfl ?_ | refine wE rfl ?_)
     ·skip
      have e1' : (!inM m.pins[j].rod 0 (m.rods - 1)) = true := by rw [e1]; rfl
      refine qA (qN (v := .bool _) rfl) ?_
      refine qA (qC (v := .bool _) rfl) ?_
      refine qK rfl e1' ?_
      refine qK rfl e1' ?_
      refine qK rfl e1' ?_
      refine qK rfl e1' ?_
      refine qK rfl e1' ?_
      refine qK rfl e1' ?_
      refine qK rfl e1' ?_
      refine qA (wP rfl e1' (v := .bool _) rfl) ?_
      refine xp_condT rfl (rfl) ?_
      have ew : checkPinM m m.pins[j] = 3 := by rw [checkPinM, if_pos e1']
      refine qE ?_
      refine qB rfl ?_
      refine qA (qD (v := .int .i64 _) rfl) ?_
      refine qZ ?_
      refine qP (vs := [_]) Tryz.results86 ⟨qM rfl rfl, trivial⟩ fun V => ?_
      refine ⟨(zT (zT (zT E_k E_j) E1) (qX V)), intE ?_⟩
      have ef := zM hkl P2 (by rw [ew]; decide)
      rw [ew] at ef
      rw [C2, pk2, if_neg hq', if_pos (by rw [ef]; decide), ef]
    ·skip
     have hke : j = m.pins.length := by have := geI hk2; omega
     subst hke
     rw [List.take_length] at P2
     have C3 : pk1 m = pk3 m := by rw [C2, pk2, if_neg hq', if_neg (by simp [P2])]
     refine wV ?_
     refine qE ?_
     refine qE ?_
     refine qB rfl ?_
     refine qA (qF rfl rfl rfl rfl 7 rfl) ?_
     refine qJ 0 (v := .slice _ _ _) rfl rfl rfl rfl ?_
     refine qA (wK rfl rfl) ?_
     refine qA (qN (v := .bool _) rfl) ?_
     refine qU rfl (fun hl => ?_) (fun hl => ?_)
     ·skip
      refine qE ?_
      refine qB rfl ?_
      refine qA (qD (v := .int .i64 _) rfl) ?_
      refine qZ ?_
      refine qP (vs := [_]) Tryz.results86 ⟨qM rfl rfl, trivial⟩ fun V => ?_
      have hl' : 4 < m.links.length := by simp at hl; omega
      exact ⟨(zT (zT E_k E_j) (qX V)), intE (by rw [C3, pk3, if_pos hl'])⟩
     ·skip
      have hl' : ¬ 4 < m.links.length := by simp at hl; omega
      have CL : pk1 m = firstErr (checkLinkM m) m.links := by rw [C3, pk3, if_neg hl']
      refine qR ?_
      refine qE ?_
      refine qE ?_
      refine qB rfl ?_
      refine qA (qD (v := .int .i64 _) rfl) ?_
      refine qQ ?_
      refine zP [2, 6, 7, 71, 72, 73, 74, 75, 76, 77, 78, 79, 80, 81, 82, 83, 84, 85, 86, 87, 88, 89, 90, 91, 92, 93, 94, 95, 96, 97, 98, 99, 100, 101, 102, 103, 104, 105, 106, 107, 108, 109, 110, 111, 112, 113, 114, 115, 116] 1 (α := Nat) (fun i => [(6, .int .i64 i)]) (fun i => _) (fun i h_i => i ≤ m.links.length ∧ firstErr (checkLinkM m) (m.links.take i) = 0) (fun i => m.links.length - i) (0) ⟨rfl, trivial⟩ (rfl) (⟨Nat.zero_le _, rfl⟩) ?_
      rintro i T3 h_i E_i J_i
      refine qT [_] rfl ?_
      obtain ⟨L1, L2⟩ := J_i
      refine qE ?_
      refine qE ?_
      refine qB rfl ?_
      refine qA (qC (v := .int .i64 _) rfl) ?_
      refine qA (qF rfl rfl rfl rfl 7 rfl) ?_
      refine qJ 0 (v := .slice _ _ _) rfl rfl rfl rfl ?_
      refine qA (wK rfl rfl) ?_
      refine qA (qN (v := .bool _) rfl) ?_
      refine qU rfl (fun hk3 => ?_) (fun hk3 => ?_)
      ·skip
       have hkl : i < m.links.length := ltI hk3
       obtain ⟨g, off, hA, hc⟩ := (R.l.ext (zT (zT E_k E_j) E_i)).at (by omega) hkl
       refine qR ?_
       refine qE ?_
       refine qQ ?_
       refine qE ?_
       refine qB rfl ?_
       refine qA (qF rfl rfl rfl rfl 7 rfl) ?_
       refine qJ 0 (v := .slice _ _ _) rfl rfl rfl rfl ?_
       refine qA (qC (v := .int .i64 _) rfl) ?_
       refine qA (wG rfl hA rfl rfl rfl (by omega) (by omega)) ?_
       refine zK rfl rfl rfl rfl (hc) ?_
       refine zF (cs := [_, _, _, _]) rfl rfl fun b7 hb7 => ?_
       refine qL [_, _] rfl ?_
       refine wI 1 (v := .agg #[.int .i64 _, .int .i64 _, .int .i64 _, .int .i64 _]) (vs := [_, _, _, _]) (c' := [_, _, _, _]) rfl rfl rfl rfl rfl rfl rfl rfl rfl ?_
       refine qL [_, _] rfl ?_
       refine qE ?_
       refine qE ?_
       refine qB rfl ?_
       refine qA (qF rfl rfl rfl rfl 0 rfl) ?_
       refine qJ 1 (v := .int .i64 _) rfl rfl rfl rfl ?_
       refine qA (qF rfl rfl rfl rfl 0 rfl) ?_
       refine qJ 0 (v := .int .i64 _) rfl rfl rfl rfl ?_
       refine qA (qS rfl (by omega)) ?_
       refine wJ (caps := []) (vs := [.int .i64 _, .int .i64 _, .int .i64 _]) rfl rfl rfl (among_ok _ _ _ h_i) ?_
       rintro _ h1 E1 rfl
       rcases Bool.eq_false_or_eq_true (inM m.links[i].frm 0 (m.rods - 1)) with e1 | e1
       ·skip
        have e1' : (!inM m.links[i].frm 0 (m.rods - 1)) = false := by rw [e1]; rfl
        refine qA (qN (v := .bool _) rfl) ?_
        refine qA (qC (v := .bool _) rfl) ?_
        refine qG rfl e1' ?_
        refine qA (qF rfl rfl rfl rfl 1 rfl) ?_
        refine qG rfl e1' ?_
        refine qJ 1 (v := .int .i64 _) rfl rfl rfl rfl ?_
        refine qG rfl e1' ?_
        refine qA (qF rfl rfl rfl rfl 0 rfl) ?_
        refine qG rfl e1' ?_
        refine qJ 0 (v := .int .i64 _) rfl rfl rfl rfl ?_
        refine qG rfl e1' ?_
        refine qA (qS rfl (by omega)) ?_
        refine qG rfl e1' ?_
        refine wJ (caps := []) (vs := [.int .i64 _, .int .i64 _, .int .i64 _]) rfl rfl rfl (among_ok _ _ _ h1) ?_
        rintro _ h2 E2 rfl
        refine qG rfl e1' ?_
        refine qA (qN (v := .bool _) rfl) ?_
        refine qA (wT rfl e1' (v := .bool _) rfl) ?_
        refine qU rfl (fun hw => ?_) (fun hw => ?_)
        ·skip
         have ew : checkLinkM m m.links[i] = 3 := by rw [checkLinkM, if_neg (by rw [e1']; decide), if_pos hw]
         refine qE ?_
         refine qB rfl ?_
         refine qA (qD (v := .int .i64 _) rfl) ?_
         refine qZ ?_
         refine qP (vs := [_]) Tryz.results86 ⟨qM rfl rfl, trivial⟩ fun V => ?_
         refine ⟨(zT (zT (zT (zT (zT E_k E_j) E_i) E1) E2) (qX V)), intE ?_⟩
         rw [CL, zM hkl L2 (by rw [ew]; decide), ew]
        ·skip
         refine qR ?_
         refine qE ?_
         refine qE ?_
         refine qB rfl ?_
         refine qA (qF rfl rfl rfl rfl 0 rfl) ?_
         refine qJ 1 (v := .int .i64 _) rfl rfl rfl rfl ?_
         refine qA (qF rfl rfl rfl rfl 1 rfl) ?_
         refine qJ 1 (v := .int .i64 _) rfl rfl rfl rfl ?_
         refine qA (qN (v := .bool _) rfl) ?_
         refine qU rfl (fun hx => ?_) (fun hx => ?_)
         ·skip
          have hx' : m.links[i].frm = m.links[i].to := by simpa using hx
          have ew : checkLinkM m m.links[i] = 4 := by rw [checkLinkM, if_neg (by rw [e1']; decide), if_neg (by rw [hw]; decide), if_pos hx']
          refine qE ?_
          refine qB rfl ?_
          refine qA (qD (v := .int .i64 _) rfl) ?_
          refine qZ ?_
          refine qP (vs := [_]) Tryz.results86 ⟨qM rfl rfl, trivial⟩ fun V => ?_
          refine ⟨(zT (zT (zT (zT (zT E_k E_j) E_i) E1) E2) (qX V)), intE ?_⟩
          rw [CL, zM hkl L2 (by rw [ew]; decide), ew]
         ·skip
          have hx' : ¬ m.links[i].frm = m.links[i].to := by simpa using hx
          refine qR ?_
          refine qE ?_
          refine qE ?_
          refine qB rfl ?_
          refine qA (qF rfl rfl rfl rfl 2 rfl) ?_
          refine qJ 1 (v := .int .i64 _) rfl rfl rfl rfl ?_
          refine qA (qF rfl rfl rfl rfl 2 rfl) ?_
          refine qJ 0 (v := .int .i64 _) rfl rfl rfl rfl ?_
          refine qA (qS rfl (by omega)) ?_
          refine wJ (caps := []) (vs := [.int .i64 _, .int .i64 _, .int .i64 _]) rfl rfl rfl (among_ok _ _ _ h2) ?_
          rintro _ h3 E3 rfl
          refine qA (qN (v := .bool _) rfl) ?_
          refine qU rfl (fun hw3 => ?_) (fun hw3 => ?_)
          ·skip
           have ew : checkLinkM m m.links[i] = 3 := by rw [checkLinkM, if_neg (by rw [e1']; decide), if_neg (by rw [hw]; decide), if_neg hx', if_pos hw3]
           refine qE ?_
           refine qB rfl ?_
           refine qA (qD (v := .int .i64 _) rfl) ?_
           refine qZ ?_
           refine qP (vs := [_]) Tryz.results86 ⟨qM rfl rfl, trivial⟩ fun V => ?_
           refine ⟨(zT (zT (zT (zT (zT (zT E_k E_j) E_i) E1) E2) E3) (qX V)), intE ?_⟩
           rw [CL, zM hkl L2 (by rw [ew]; decide), ew]
          ·skip
           refine qR ?_
           refine qE ?_
           refine qB rfl ?_
           refine qA (qF rfl rfl rfl rfl 3 rfl) ?_
           refine qJ 1 (v := .int .i64 _) rfl rfl rfl rfl ?_
           refine qA (qF rfl rfl rfl rfl 3 rfl) ?_
           refine qJ 0 (v := .int .i64 _) rfl rfl rfl rfl ?_
           refine wJ (caps := []) (vs := [.int .i64 _, .int .i64 _, .int .i64 _]) rfl rfl rfl (among_ok _ _ _ h3) ?_
           rintro _ h4 E4 rfl
           refine qA (qN (v := .bool _) rfl) ?_
           refine qU rfl (fun hw4 => ?_) (fun hw4 => ?_)
           ·skip
            have ew : checkLinkM m m.links[i] = 1 := by rw [checkLinkM, if_neg (by rw [e1']; decide), if_neg (by rw [hw]; decide), if_neg hx', if_neg (by rw [hw3]; decide), if_pos hw4]
            refine qE ?_
            refine qB rfl ?_
            refine qA (qD (v := .int .i64 _) rfl) ?_
            refine qZ ?_
            refine qP (vs := [_]) Tryz.results86 ⟨qM rfl rfl, trivial⟩ fun V => ?_
            refine ⟨(zT (zT (zT (zT (zT (zT (zT E_k E_j) E_i) E1) E2) E3) E4) (qX V)), intE ?_⟩
            rw [CL, zM hkl L2 (by rw [ew]; decide), ew]
           ·skip
            refine qR ?_
            refine qB rfl ?_
            refine qA (qC (v := .int .i64 _) rfl) ?_
            refine qA (qS rfl (by omega)) ?_
            refine qA (qD (v := .int .i64 _) rfl) ?_
            refine ⟨i + 1, ⟨rfl, trivial⟩, rfl, rfl, (zT (zT (zT (zT E_i E1) E2) E3) E4), fun h3 E3 => ⟨hkl, firstErr_go hkl L2 (by rw [checkLinkM, if_neg (by rw [e1']; decide), if_neg (by rw [hw]; decide), if_neg hx', if_neg (by rw [hw3]; decide), if_neg (by rw [hw4]; decide)])⟩, by first | omega | (dsimp only; omega), ?_⟩
            repeat (first | exact qW _ _ _ | refine wD (by decide) ?_ | refine qV rfl ?_ | refine wE rfl ?_)
       ·skip
        have e1' : (!inM m.links[i].frm 0 (m.rods - 1)) = true := by rw [e1]; rfl
        refine qA (qN (v := .bool _) rfl) ?_
        refine qA (qC (v := .bool _) rfl) ?_
        refine qK rfl e1' ?_
        refine qK rfl e1' ?_
        refine qK rfl e1' ?_
        refine qK rfl e1' ?_
        refine qK rfl e1' ?_
        refine qK rfl e1' ?_
        refine qK rfl e1' ?_
        refine qA (wP rfl e1' (v := .bool _) rfl) ?_
        refine xp_condT rfl (rfl) ?_
        have ew : checkLinkM m m.links[i] = 3 := by rw [checkLinkM, if_pos e1']
        refine qE ?_
        refine qB rfl ?_
        refine qA (qD (v := .int .i64 _) rfl) ?_
        refine qZ ?_
        refine qP (vs := [_]) Tryz.results86 ⟨qM rfl rfl, trivial⟩ fun V => ?_
        refine ⟨(zT (zT (zT (zT E_k E_j) E_i) E1) (qX V)), intE ?_⟩
        rw [CL, zM hkl L2 (by rw [ew]; decide), ew]
      ·skip
       have hke : i = m.links.length := by have := geI hk3; omega
       subst hke
       rw [List.take_length] at L2
       refine wV ?_
       refine qE ?_
       refine qB rfl ?_
       refine qA (qD (v := .int .i64 _) rfl) ?_
       refine qZ ?_
       refine qP (vs := [_]) Tryz.results86 ⟨qM rfl rfl, trivial⟩ fun V => ?_
       exact ⟨(zT (zT (zT E_k E_j) E_i) (qX V)), intE (by rw [CL, L2])⟩
set_option maxHeartbeats 4000000 in
theorem CheckG_ok (m : MachP) (AB AQ AL AW : Option Addr) (cB cQ cL cW : Nat) (h : AH) (R : MachR h AB AQ AL AW m) (h0 : m.weights.length < 2 ^ 40) (h1 : m.buttons.length < 2 ^ 40) (h2 : m.pins.length < 2 ^ 40) (h3 : m.links.length < 2 ^ 40) :
  FnT Tryz.prog 62 #[machV AB AQ AL AW cB cQ cL cW m] h (fun v _ => v = .int .i64 (chkM m)) := by
 refine wM Tryz.func62 rfl Tryz.ntmps62 rfl ?_
 refine qE ?_
 refine qB rfl ?_
 refine zG (v := .agg #[.int .i64 _, .int .i64 _, .int .i64 _, .int .i64 _, .int .i64 _, .slice _ _ _, .slice _ _ _, .slice _ _ _, .slice _ _ _]) (cs := [_, _, _, _, _, _, _, _, _]) rfl rfl fun b1 hb1 => ?_
 refine qL [_] rfl ?_
 refine qA (qD (v := .int .i64 _) rfl) ?_
 refine qE ?_
 refine qE ?_
 refine qB rfl ?_
 refine qA (qF rfl rfl rfl rfl 0 rfl) ?_
 refine qJ 0 (v := .int .i64 _) rfl rfl rfl rfl ?_
 refine wJ (caps := []) (vs := [.int .i64 _, .int .i64 _, .int .i64 _]) rfl rfl rfl (among_ok _ _ _ h) ?_
 rintro _ h4 E4 rfl
 rcases Bool.eq_false_or_eq_true (inM m.rods 1 6) with e1 | e1
 ·skip
  have e1' : (!inM m.rods 1 6) = false := by rw [e1]; rfl
  refine qA (qN (v := .bool _) rfl) ?_
  refine qA (qC (v := .bool _) rfl) ?_
  refine qG rfl e1' ?_
  refine qA (qF rfl rfl rfl rfl 1 rfl) ?_
  refine qG rfl e1' ?_
  refine qJ 0 (v := .int .i64 _) rfl rfl rfl rfl ?_
  refine qG rfl e1' ?_
  refine wJ (caps := []) (vs := [.int .i64 _, .int .i64 _, .int .i64 _]) rfl rfl rfl (among_ok _ _ _ h4) ?_
  rintro _ h5 E5 rfl
  rcases Bool.eq_false_or_eq_true (inM m.levers 1 6) with e2 | e2
  ·skip
   have e2' : (!inM m.levers 1 6) = false := by rw [e2]; rfl
   refine qG rfl e1' ?_
   refine qA (qN (v := .bool _) rfl) ?_
   refine qA (wT rfl e1' (v := .bool _) rfl) ?_
   refine qA (qC (v := .bool _) rfl) ?_
   refine qG rfl e2' ?_
   refine qA (qF rfl rfl rfl rfl 2 rfl) ?_
   refine qG rfl e2' ?_
   refine qJ 0 (v := .int .i64 _) rfl rfl rfl rfl ?_
   refine qG rfl e2' ?_
   refine wJ (caps := []) (vs := [.int .i64 _, .int .i64 _, .int .i64 _]) rfl rfl rfl (among_ok _ _ _ h5) ?_
   rintro _ h6 E6 rfl
   rcases Bool.eq_false_or_eq_true (inM m.regs 0 2) with e3 | e3
   ·skip
    have e3' : (!inM m.regs 0 2) = false := by rw [e3]; rfl
    refine qG rfl e2' ?_
    refine qA (qN (v := .bool _) rfl) ?_
    refine qA (wT rfl e2' (v := .bool _) rfl) ?_
    refine qA (qC (v := .bool _) rfl) ?_
    refine qG rfl e3' ?_
    refine qA (qF rfl rfl rfl rfl 3 rfl) ?_
    refine qG rfl e3' ?_
    refine qJ 0 (v := .int .i64 _) rfl rfl rfl rfl ?_
    refine qG rfl e3' ?_
    refine wJ (caps := []) (vs := [.int .i64 _, .int .i64 _, .int .i64 _]) rfl rfl rfl (among_ok _ _ _ h6) ?_
    rintro _ h7 E7 rfl
    rcases Bool.eq_false_or_eq_true (inM m.travel 1 12) with e4 | e4
    ·skip
     have e4' : (!inM m.travel 1 12) = false := by rw [e4]; rfl
     refine qG rfl e3' ?_
     refine qA (qN (v := .bool _) rfl) ?_
     refine qA (wT rfl e3' (v := .bool _) rfl) ?_
     refine qA (qC (v := .bool _) rfl) ?_
     refine qG rfl e4' ?_
     refine qA (qF rfl rfl rfl rfl 4 rfl) ?_
     refine qG rfl e4' ?_
     refine qJ 0 (v := .int .i64 _) rfl rfl rfl rfl ?_
     refine qG rfl e4' ?_
     refine qA (qF rfl rfl rfl rfl 3 rfl) ?_
     refine qG rfl e4' ?_
     refine qJ 0 (v := .int .i64 _) rfl rfl rfl rfl ?_
     refine qG rfl e4' ?_
     refine wJ (caps := []) (vs := [.int .i64 _, .int .i64 _, .int .i64 _]) rfl rfl rfl (among_ok _ _ _ h7) ?_
     rintro _ h8 E8 rfl
     refine qG rfl e4' ?_
     refine qA (qN (v := .bool _) rfl) ?_
     refine qA (wT rfl e4' (v := .bool _) rfl) ?_
     refine qU rfl (fun hh => ?_) (fun hh => ?_)
     ·skip
      refine qE ?_
      refine qB rfl ?_
      refine qA (qD (v := .int .i64 _) rfl) ?_
      refine qZ ?_
      refine qP (vs := [_]) Tryz.results62 ⟨qM rfl rfl, trivial⟩ fun V => ?_
      exact ⟨(zT (zT (zT (zT (zT E4 E5) E6) E7) E8) (qX V)), intE (by unfold chkM; rw [if_neg (by rw [e1']; decide), if_neg (by rw [e2']; decide), if_neg (by rw [e3']; decide), if_neg (by rw [e4']; decide), if_pos hh])⟩
     ·skip
      have e5 : inM m.opn 1 m.travel = true := by simpa using hh
      have C1 := chk_head e1 e2 e3 e4 e5
      have b1 := inM_iff.1 e1
      have b2 := inM_iff.1 e2
      have b3 := inM_iff.1 e3
      have b4 := inM_iff.1 e4
      refine qR ?_
      refine qE ?_
      refine qE ?_
      refine qB rfl ?_
      refine qY 0 (vs := [.int .i64 _, .int .i64 _, .int .i64 _, .int .i64 _, .int .i64 _, .slice _ _ _, .slice _ _ _, .slice _ _ _, .slice _ _ _]) rfl rfl rfl rfl rfl ?_
      refine wJ (caps := []) (vs := [.agg #[.int .i64 _, .int .i64 _, .int .i64 _, .int .i64 _, .int .i64 _, .slice _ _ _, .slice _ _ _, .slice _ _ _, .slice _ _ _]]) rfl rfl rfl (checkPartsG_ok m b1 b2 b3 b4 AB AQ AL AW cB cQ cL cW h8 (R.ext (zT (zT (zT (zT E4 E5) E6) E7) E8)) h1 h2 h3) ?_
      rintro _ h9 E9 rfl
      refine qA (qD (v := .int .i64 _) rfl) ?_
      refine qE ?_
      refine qB rfl ?_
      refine qA (qC (v := .int .i64 _) rfl) ?_
      refine qA (qN (v := .bool _) rfl) ?_
      refine qU rfl (fun hp => ?_) (fun hp => ?_)
      ·skip
       have hp' : pk1 m ≠ 0 := by simpa using hp
       refine qE ?_
       refine qB rfl ?_
       refine qA (qC (v := .int .i64 _) rfl) ?_
       refine qA (qD (v := .int .i64 _) rfl) ?_
       refine qZ ?_
       refine qP (vs := [_]) Tryz.results62 ⟨qM rfl rfl, trivial⟩ fun V => ?_
       exact ⟨(zT (zT (zT (zT (zT (zT E4 E5) E6) E7) E8) E9) (qX V)), intE (by rw [C1, pk_chk, if_pos hp'])⟩
      ·skip
       have hp' : ¬ pk1 m ≠ 0 := by simpa using hp
       have C4 : chkM m = chk4 m := by rw [C1, pk_chk, if_neg hp']
       refine qR ?_
       refine qE ?_
       refine qE ?_
       refine qB rfl ?_
       refine qA (qF rfl rfl rfl rfl 8 rfl) ?_
       refine qJ 0 (v := .slice _ _ _) rfl rfl rfl rfl ?_
       refine qA (wK rfl rfl) ?_
       refine qA (qF rfl rfl rfl rfl 1 rfl) ?_
       refine qJ 0 (v := .int .i64 _) rfl rfl rfl rfl ?_
       refine qA (qN (v := .bool _) rfl) ?_
       refine qU rfl (fun hw => ?_) (fun hw => ?_)
       ·skip
        refine qE ?_
        refine qB rfl ?_
        refine qA (qD (v := .int .i64 _) rfl) ?_
        refine qZ ?_
        refine qP (vs := [_]) Tryz.results62 ⟨qM rfl rfl, trivial⟩ fun V => ?_
        have hw' : ¬ (m.weights.length : Int) = m.levers := by simpa using hw
        exact ⟨(zT (zT (zT (zT (zT (zT E4 E5) E6) E7) E8) E9) (qX V)), intE (by rw [C4, chk4, if_pos hw'])⟩
       ·skip
        have hw' : (m.weights.length : Int) = m.levers := by simpa using hw
        refine qR ?_
        refine qE ?_
        refine qE ?_
        refine qB rfl ?_
        refine qA (qD (v := .int .i64 _) rfl) ?_
        refine qQ ?_
        refine zP [2, 4, 46, 47, 48, 49, 50, 51, 52, 53, 54, 55, 56, 57, 58, 59] 1 (α := Nat) (fun o => [(4, .int .i64 o)]) (fun o => _) (fun o h_o => o ≤ m.weights.length ∧ firstErr checkWeightM (m.weights.take o) = 0) (fun o => m.weights.length - o) (0) ⟨rfl, trivial⟩ (rfl) (⟨Nat.zero_le _, rfl⟩) ?_
        rintro o T1 h_o E_o J_o
        refine qT [_] rfl ?_
        obtain ⟨W1, W2⟩ := J_o
        refine qE ?_
        refine qE ?_
        refine qB rfl ?_
        refine qA (qC (v := .int .i64 _) rfl) ?_
        refine qA (qF rfl rfl rfl rfl 8 rfl) ?_
        refine qJ 0 (v := .slice _ _ _) rfl rfl rfl rfl ?_
        refine qA (wK rfl rfl) ?_
        refine qA (qN (v := .bool _) rfl) ?_
        refine qU rfl (fun hk4 => ?_) (fun hk4 => ?_)
        ·skip
         have hkl : o < m.weights.length := ltI hk4
         obtain ⟨g, off, hA, hc⟩ := (R.w.ext (zT (zT (zT (zT (zT (zT E4 E5) E6) E7) E8) E9) E_o)).at (by omega) hkl
         refine qR ?_
         refine qE ?_
         refine qQ ?_
         refine qE ?_
         refine qB rfl ?_
         refine qA (qF rfl rfl rfl rfl 8 rfl) ?_
         refine qJ 0 (v := .slice _ _ _) rfl rfl rfl rfl ?_
         refine qA (qC (v := .int .i64 _) rfl) ?_
         refine qA (wG rfl hA rfl rfl rfl (by omega) (by omega)) ?_
         refine wS (v := .int .i64 _) rfl rfl ((hc) 0 _ rfl) ?_
         refine wJ (caps := []) (vs := [.int .i64 _, .int .i64 _, .int .i64 _]) rfl rfl rfl (among_ok _ _ _ h_o) ?_
         rintro _ h10 E10 rfl
         refine qA (qN (v := .bool _) rfl) ?_
         refine qU rfl (fun hz => ?_) (fun hz => ?_)
         ·skip
          have ew : checkWeightM m.weights[o] = 1 := by rw [checkWeightM, if_pos hz]
          refine qE ?_
          refine qB rfl ?_
          refine qA (qD (v := .int .i64 _) rfl) ?_
          refine qZ ?_
          refine qP (vs := [_]) Tryz.results62 ⟨qM rfl rfl, trivial⟩ fun V => ?_
          refine ⟨(zT (zT (zT (zT (zT (zT (zT (zT E4 E5) E6) E7) E8) E9) E_o) E10) (qX V)), intE ?_⟩
          have ef := zM hkl W2 (by rw [ew]; decide)
          rw [ew] at ef
          rw [C4, chk4, if_neg (by simpa using hw'), ef]
         ·skip
          refine qR ?_
          refine qB rfl ?_
          refine qA (qC (v := .int .i64 _) rfl) ?_
          refine qA (qS rfl (by omega)) ?_
          refine qA (qD (v := .int .i64 _) rfl) ?_
          refine ⟨o + 1, ⟨rfl, trivial⟩, rfl, rfl, (zT E_o E10), fun h3 E3 => ⟨hkl, firstErr_go hkl W2 (by rw [checkWeightM, if_neg (by simpa using hz)])⟩, by first | omega | (dsimp only; omega), ?_⟩
          repeat (first | exact qW _ _ _ | refine wD (by decide) ?_ | refine qV rfl ?_ | refine wE rfl ?_)
        ·skip
         have hke : o = m.weights.length := by have := geI hk4; omega
         subst hke
         rw [List.take_length] at W2
         refine wV ?_
         refine qE ?_
         refine qB rfl ?_
         refine qA (qD (v := .int .i64 _) rfl) ?_
         refine qZ ?_
         refine qP (vs := [_]) Tryz.results62 ⟨qM rfl rfl, trivial⟩ fun V => ?_
         exact ⟨(zT (zT (zT (zT (zT (zT (zT E4 E5) E6) E7) E8) E9) E_o) (qX V)), intE (by rw [C4, chk4, if_neg (by simpa using hw'), W2])⟩
    ·skip
     have e4' : (!inM m.travel 1 12) = true := by rw [e4]; rfl
     refine qG rfl e3' ?_
     refine qA (qN (v := .bool _) rfl) ?_
     refine qA (wT rfl e3' (v := .bool _) rfl) ?_
     refine qA (qC (v := .bool _) rfl) ?_
     refine qK rfl e4' ?_
     refine qK rfl e4' ?_
     refine qK rfl e4' ?_
     refine qK rfl e4' ?_
     refine qK rfl e4' ?_
     refine qK rfl e4' ?_
     refine qA (wP rfl e4' (v := .bool _) rfl) ?_
     refine xp_condT rfl (rfl) ?_
     refine qE ?_
     refine qB rfl ?_
     refine qA (qD (v := .int .i64 _) rfl) ?_
     refine qZ ?_
     refine qP (vs := [_]) Tryz.results62 ⟨qM rfl rfl, trivial⟩ fun V => ?_
     exact ⟨(zT (zT (zT (zT E4 E5) E6) E7) (qX V)), intE (by unfold chkM; rw [if_neg (by rw [e1']; decide), if_neg (by rw [e2']; decide), if_neg (by rw [e3']; decide), if_pos e4'])⟩
   ·skip
    have e3' : (!inM m.regs 0 2) = true := by rw [e3]; rfl
    refine qG rfl e2' ?_
    refine qA (qN (v := .bool _) rfl) ?_
    refine qA (wT rfl e2' (v := .bool _) rfl) ?_
    refine qA (qC (v := .bool _) rfl) ?_
    refine qK rfl e3' ?_
    refine qK rfl e3' ?_
    refine qK rfl e3' ?_
    refine qK rfl e3' ?_
    refine qA (wP rfl e3' (v := .bool _) rfl) ?_
    refine qA (qC (v := .bool _) rfl) ?_
    refine qK rfl rfl ?_
    refine qK rfl rfl ?_
    refine qK rfl rfl ?_
    refine qK rfl rfl ?_
    refine qK rfl rfl ?_
    refine qK rfl rfl ?_
    refine qA (wP rfl rfl (v := .bool _) rfl) ?_
    refine xp_condT rfl (rfl) ?_
    refine qE ?_
    refine qB rfl ?_
    refine qA (qD (v := .int .i64 _) rfl) ?_
    refine qZ ?_
    refine qP (vs := [_]) Tryz.results62 ⟨qM rfl rfl, trivial⟩ fun V => ?_
    exact ⟨(zT (zT (zT E4 E5) E6) (qX V)), intE (by unfold chkM; rw [if_neg (by rw [e1']; decide), if_neg (by rw [e2']; decide), if_pos e3'])⟩
  ·skip
   have e2' : (!inM m.levers 1 6) = true := by rw [e2]; rfl
   refine qG rfl e1' ?_
   refine qA (qN (v := .bool _) rfl) ?_
   refine qA (wT rfl e1' (v := .bool _) rfl) ?_
   refine qA (qC (v := .bool _) rfl) ?_
   refine qK rfl e2' ?_
   refine qK rfl e2' ?_
   refine qK rfl e2' ?_
   refine qK rfl e2' ?_
   refine qA (wP rfl e2' (v := .bool _) rfl) ?_
   refine qA (qC (v := .bool _) rfl) ?_
   refine qK rfl rfl ?_
   refine qK rfl rfl ?_
   refine qK rfl rfl ?_
   refine qK rfl rfl ?_
   refine qA (wP rfl rfl (v := .bool _) rfl) ?_
   refine qA (qC (v := .bool _) rfl) ?_
   refine qK rfl rfl ?_
   refine qK rfl rfl ?_
   refine qK rfl rfl ?_
   refine qK rfl rfl ?_
   refine qK rfl rfl ?_
   refine qK rfl rfl ?_
   refine qA (wP rfl rfl (v := .bool _) rfl) ?_
   refine xp_condT rfl (rfl) ?_
   refine qE ?_
   refine qB rfl ?_
   refine qA (qD (v := .int .i64 _) rfl) ?_
   refine qZ ?_
   refine qP (vs := [_]) Tryz.results62 ⟨qM rfl rfl, trivial⟩ fun V => ?_
   exact ⟨(zT (zT E4 E5) (qX V)), intE (by unfold chkM; rw [if_neg (by rw [e1']; decide), if_pos e2'])⟩
 ·skip
  have e1' : (!inM m.rods 1 6) = true := by rw [e1]; rfl
  refine qA (qN (v := .bool _) rfl) ?_
  refine qA (qC (v := .bool _) rfl) ?_
  refine qK rfl e1' ?_
  refine qK rfl e1' ?_
  refine qK rfl e1' ?_
  refine qK rfl e1' ?_
  refine qA (wP rfl e1' (v := .bool _) rfl) ?_
  refine qA (qC (v := .bool _) rfl) ?_
  refine qK rfl rfl ?_
  refine qK rfl rfl ?_
  refine qK rfl rfl ?_
  refine qK rfl rfl ?_
  refine qA (wP rfl rfl (v := .bool _) rfl) ?_
  refine qA (qC (v := .bool _) rfl) ?_
  refine qK rfl rfl ?_
  refine qK rfl rfl ?_
  refine qK rfl rfl ?_
  refine qK rfl rfl ?_
  refine qA (wP rfl rfl (v := .bool _) rfl) ?_
  refine qA (qC (v := .bool _) rfl) ?_
  refine qK rfl rfl ?_
  refine qK rfl rfl ?_
  refine qK rfl rfl ?_
  refine qK rfl rfl ?_
  refine qK rfl rfl ?_
  refine qK rfl rfl ?_
  refine qA (wP rfl rfl (v := .bool _) rfl) ?_
  refine xp_condT rfl (rfl) ?_
  refine qE ?_
  refine qB rfl ?_
  refine qA (qD (v := .int .i64 _) rfl) ?_
  refine qZ ?_
  refine qP (vs := [_]) Tryz.results62 ⟨qM rfl rfl, trivial⟩ fun V => ?_
  exact ⟨(zT E4 (qX V)), intE (by unfold chkM; rw [if_pos e1'])⟩
end
end Go.Proofs.YthphpbdmbmiaiaaGreat
