/- An own logic over the model, its walks and its plain laws, joined of parts Ru R54 R55 R63 R64 R57 R22 Ud GU R56 R65 Ue R66. Conditions: as each theorem states. -/
import Derived.Test.YthphpbdmbmiaiaaGreatLa5
import Derived.Test.YthphpbdmbmiaiaaGreatLa6
import Derived.Test.YthphpbdmbmiaiaaGreatLa2
import Derived.Test.YthphpbdmbmiaiaaGreatLa3
import Derived.Test.YthphpbdmbmiaiaaGreatRows
import Derived.Deep.Slices
import Derived.ProofKit
import Derived.Test.YthphpbdmbmiaiaaGreatLa1
set_option linter.all false
namespace Go.Rd
open Go Go.HL Go.Wx
variable [Lvl]
end Go.Rd
namespace Go.Proofs.YthphpbdmbmiaiaaGreat
open Go Go.HL Go.Proofs Go.Wx Go.Rd
section
variable [Lvl]
set_option maxRecDepth 100000
structure Sml (m : MachP) : Prop where
 b : m.buttons.length < 2 ^ 20
 q : m.pins.length < 2 ^ 20
 l : m.links.length < 2 ^ 20
 w : m.weights.length < 2 ^ 20
structure SmlH (a : HandP) : Prop where
 b : a.buttons.length < 2 ^ 20
 o : a.on.length < 2 ^ 20
theorem CheckS_ok (m : MachP) (S : Sml m) (AB AQ AL AW : Option Addr) (cB cQ cL cW : Nat) (h : AH) (R : MachR h AB AQ AL AW m) :
  FnT Tryz.prog 62 #[machV AB AQ AL AW cB cQ cL cW m] h (fun v _ => v = .int .i64 (chkM m)) :=
 CheckG_ok m AB AQ AL AW cB cQ cL cW h R (Nat.lt_trans S.w (by decide)) (Nat.lt_trans S.b (by decide)) (Nat.lt_trans S.q (by decide)) (Nat.lt_trans S.l (by decide))
end
end Go.Proofs.YthphpbdmbmiaiaaGreat
namespace Go.Proofs.YthphpbdmbmiaiaaGreat
open Go Go.HL Go.Proofs Go.Wx Go.Rd
section
variable [Lvl]
set_option maxRecDepth 100000
abbrev machC (AB AQ AL AW : Option Addr) (cB cQ cL cW : Nat) (m : MachP) : List Value := [.int .i64 m.rods, .int .i64 m.levers, .int .i64 m.regs, .int .i64 m.travel, .int .i64 m.opn, .slice AB m.buttons.length cB, .slice AQ m.pins.length cQ, .slice AL m.links.length cL, .slice AW m.weights.length cW]
def TMa (h : AH) (m : MachP) (c : List Value) : Prop := ∃ AB AQ AL AW cB cQ cL cW, c = machC AB AQ AL AW cB cQ cL cW m ∧ MachR h AB AQ AL AW m ∧ m.pins.length ≤ cQ ∧ m.links.length ≤ cL
theorem TMa.mono : Mono TMa := fun h h' m c e ⟨AB, AQ, AL, AW, cB, cQ, cL, cW, hc, r, s⟩ => ⟨AB, AQ, AL, AW, cB, cQ, cL, cW, hc, r.ext e, s⟩
theorem CopyMachine_ok (m : MachP) (S : Sml m) (AB AQ AL AW : Option Addr) (cB cQ cL cW : Nat) (h : AH) (R : MachR h AB AQ AL AW m) :
  FnT Tryz.prog 13 #[machV AB AQ AL AW cB cQ cL cW m] h (fun v h' => ∃ AB AQ AL AW cB cQ cL cW, v = machV AB AQ AL AW cB cQ cL cW m ∧ MachR h' AB AQ AL AW m) := by
 have s1 := S.b
 have s2 := S.q
 have s3 := S.l
 have s4 := S.w
 refine wM Tryz.func13 rfl Tryz.ntmps13 rfl ?_
 refine qE ?_
 refine qB rfl ?_
 refine zG (v := .agg #[.int .i64 _, .int .i64 _, .int .i64 _, .int .i64 _, .int .i64 _, .slice _ _ _, .slice _ _ _, .slice _ _ _, .slice _ _ _]) (cs := [_, _, _, _, _, _, _, _, _]) rfl rfl fun b1 hb1 => ?_
 refine qL [_] rfl ?_
 refine zF (cs := [_, _, _, _, _, _, _, _, _]) rfl rfl fun b2 hb2 => ?_
 refine qL [_, _] rfl ?_
 refine qE ?_
 refine xp_dw [] rfl rfl rfl ?_
 refine qI (i := 0) rfl (by decide +kernel) (qF rfl rfl rfl rfl 5 rfl) ?_
 refine wH (i := 1) rfl (by decide +kernel) ?_
 refine qJ 0 (v := .slice _ _ _) rfl rfl rfl rfl ?_
 refine qI (i := 3) rfl (by decide +kernel) (qF rfl rfl rfl rfl 8 rfl) ?_
 refine wH (i := 4) rfl (by decide +kernel) ?_
 refine qJ 0 (v := .slice _ _ _) rfl rfl rfl rfl ?_
 refine dw_eff (i := 2) rfl (by decide +kernel) ?_
 refine wJ (caps := []) (vs := [.slice _ _ _]) rfl rfl rfl (Ints_ok m.buttons AB cB h (R.b.ext (Ext.refl _)) s1) ?_
 rintro _ g0 G0 ⟨A1, c1, rfl, R1⟩
 refine ⟨ext_wlm G0 _, ?_⟩
 refine qI (i := 6) rfl (by decide +kernel) (qF rfl rfl rfl rfl 5 rfl) ?_
 refine zA (i := 5) rfl (by decide +kernel) (by decide +kernel) ?_
 refine wJ (caps := []) (vs := [.slice _ _ _]) rfl rfl rfl (Ints_ok m.weights AW cW g0 (R.w.ext G0) s4) ?_
 rintro _ g1 G1 ⟨A4, c4, rfl, R4⟩
 refine zA (i := 7) rfl (by decide +kernel) (by decide +kernel) ?_
 refine wI 0 (v := .slice _ _ _) (vs := [_]) (c' := [_, _, _, _, _, _, _, _, _]) rfl rfl rfl rfl rfl rfl rfl rfl rfl ?_
 refine wY [_, _] rfl ?_
 refine qI (i := 8) rfl (by decide +kernel) (qF rfl rfl rfl rfl 8 rfl) ?_
 refine zA (i := 9) rfl (by decide +kernel) (by decide +kernel) ?_
 refine wI 0 (v := .slice _ _ _) (vs := [_]) (c' := [_, _, _, _, _, _, _, _, _]) rfl rfl rfl rfl rfl rfl rfl rfl rfl ?_
 refine wY [_, _] rfl ?_
 refine zN rfl ?_
 refine qE ?_
 refine xp_dw [false, false, true, true] rfl rfl rfl ?_
 refine qI (i := 1) rfl (by decide +kernel) (qF rfl rfl rfl rfl 6 rfl) ?_
 refine wH (i := 2) rfl (by decide +kernel) ?_
 refine qJ 0 (v := .slice _ _ _) rfl rfl rfl rfl ?_
 refine qI (i := 5) rfl (by decide +kernel) (qF rfl rfl rfl rfl 7 rfl) ?_
 refine wH (i := 6) rfl (by decide +kernel) ?_
 refine qJ 0 (v := .slice _ _ _) rfl rfl rfl rfl ?_
 refine dw_eff (i := 0) rfl (by decide +kernel) ?_
 refine wA (zc := [_, _, _]) (vs := []) (cs := []) rfl rfl rfl rfl rfl rfl rfl fun b11 hb11 => ?_
 refine ⟨ext_newM hb11 _, ?_⟩
 refine wY [_, _, _] rfl ?_
 refine dw_eff (i := 3) rfl (by decide +kernel) ?_
 refine wZ 2 accR_new rfl rfl rfl (fun V => R.q.2.ext (zT (zT G0 G1) (qX V))) (wN R.q.1) (flat_plain pinP m.pins) rfl rfl rfl rfl rfl rfl rfl (by omega) rfl (by rw [wN R.q.1, List.length_nil]; omega) fun a2 h1a E1a ha2 => ?_
 refine ⟨ext_wlm E1a _, ?_⟩
 refine wY [_, _, _] rfl ?_
 refine qI (i := 8) rfl (by decide +kernel) (qF rfl rfl rfl rfl 6 rfl) ?_
 refine dw_eff (i := 4) rfl (by decide +kernel) ?_
 refine wA (zc := [_, _, _, _]) (vs := []) (cs := []) rfl rfl rfl rfl rfl rfl rfl fun b15 hb15 => ?_
 refine ⟨ext_newM hb15 _, ?_⟩
 refine wY [_, _, _, _] rfl ?_
 refine zA (i := 7) rfl (by decide +kernel) (by decide +kernel) ?_
 refine wZ 3 accR_new rfl rfl rfl (fun V => R.l.2.ext (zT (zT (zT G0 G1) E1a) (qX V))) (wN R.l.1) (flat_plain linkP m.links) rfl rfl rfl rfl rfl rfl rfl (by omega) rfl (by rw [wN R.l.1, List.length_nil]; omega) fun a3 h2a E2a ha3 => ?_
 refine wY [_, _, _, _] rfl ?_
 refine zA (i := 9) rfl (by decide +kernel) (by decide +kernel) ?_
 refine wI 0 (v := .slice _ _ _) (vs := [_]) (c' := [_, _, _, _, _, _, _, _, _]) rfl rfl rfl rfl rfl rfl rfl rfl rfl ?_
 refine wY [_, _, _, _] rfl ?_
 refine qI (i := 10) rfl (by decide +kernel) (qF rfl rfl rfl rfl 7 rfl) ?_
 refine zA (i := 11) rfl (by decide +kernel) (by decide +kernel) ?_
 refine wI 0 (v := .slice _ _ _) (vs := [_]) (c' := [_, _, _, _, _, _, _, _, _]) rfl rfl rfl rfl rfl rfl rfl rfl rfl ?_
 refine wY [_, _, _, _] rfl ?_
 refine zN rfl ?_
 refine qE ?_
 refine qB rfl ?_
 refine qY 0 (vs := [.int .i64 _, .int .i64 _, .int .i64 _, .int .i64 _, .int .i64 _, .slice _ _ _, .slice _ _ _, .slice _ _ _, .slice _ _ _]) rfl rfl rfl rfl rfl ?_
 refine wI 1 (v := .agg #[.int .i64 _, .int .i64 _, .int .i64 _, .int .i64 _, .int .i64 _, .slice _ _ _, .slice _ _ _, .slice _ _ _, .slice _ _ _]) (vs := [_, _, _, _, _, _, _, _, _]) (c' := [_, _, _, _, _, _, _, _, _]) rfl rfl rfl rfl rfl rfl rfl rfl rfl ?_
 refine qL [_, _, _, _] rfl ?_
 refine qZ ?_
 refine qP (vs := [_]) Tryz.results13 ⟨resV_agg 1 rfl rfl rfl rfl rfl (vs := [.int .i64 _, .int .i64 _, .int .i64 _, .int .i64 _, .int .i64 _, .slice _ _ _, .slice _ _ _, .slice _ _ _, .slice _ _ _]) rfl, trivial⟩ fun V => ?_
 have n2 : a2.n = m.pins.length := by have := AccR.len ha2; rw [List.nil_append, wN (m := 3) (fun _ _ => rfl)] at this; omega
 have n3 : a3.n = m.links.length := by have := AccR.len ha3; rw [List.nil_append, wN (m := 4) (fun _ _ => rfl)] at this; omega
 refine ⟨(zT (zT (zT (zT G0 G1) E1a) E2a) (qX V)), A1, a2.A, a3.A, A4, c1, a2.c, a3.c, c4, by rw [n2, n3]; rfl, ⟨(R1.ext (zT (zT G1 E1a) E2a)).ext (qX V), row_acc (i := 2) ha2 (by omega) (fun _ _ => rfl) V rfl, row_acc (i := 3) ha3 (by omega) (fun _ _ => rfl) V rfl, (R4.ext (zT E1a E2a)).ext (qX V)⟩⟩
theorem pinEq (a b : PinP) : pev Tryz.prog (Op.equalIn Op.maxDepth 71 (.agg (pinC a).toArray) (.agg (pinC b).toArray)) = some (decide (a.rod = b.rod ∧ a.lever = b.lever ∧ a.lag = b.lag)) := by
 have h1 := eq_struct (P := Tryz.prog) (t := 71) (d := 9999) (fs := [_, _, _]) (xs := (pinC a).toArray) (ys := (pinC b).toArray) (rs := [a.rod == b.rod, a.lever == b.lever, a.lag == b.lag]) rfl (by kernel_rfl) rfl ?_
 ·refine h1.trans ?_
  simp only [List.all_cons, List.all_nil, id, Bool.and_true, Option.some.injEq]
  rw [Bool.eq_iff_iff]
  simp
 ·intro i f r hf hr
  match i, hf, hr with
  | 0, hf, hr => cases hf; cases hr; exact ⟨by decide, _, _, rfl, rfl, eq_int rfl _ _⟩
  | 1, hf, hr => cases hf; cases hr; exact ⟨by decide, _, _, rfl, rfl, eq_int rfl _ _⟩
  | 2, hf, hr => cases hf; cases hr; exact ⟨by decide, _, _, rfl, rfl, eq_int rfl _ _⟩
  | i + 3, hf, hr => simp at hf
theorem linkEq (a b : LinkP) : pev Tryz.prog (Op.equalIn Op.maxDepth 73 (.agg (linkC a).toArray) (.agg (linkC b).toArray)) = some (decide (a.frm = b.frm ∧ a.to = b.to ∧ a.reg = b.reg ∧ a.lag = b.lag)) := by
 have h1 := eq_struct (P := Tryz.prog) (t := 73) (d := 9999) (fs := [_, _, _, _]) (xs := (linkC a).toArray) (ys := (linkC b).toArray) (rs := [a.frm == b.frm, a.to == b.to, a.reg == b.reg, a.lag == b.lag]) rfl (by kernel_rfl) rfl ?_
 ·refine h1.trans ?_
  simp only [List.all_cons, List.all_nil, id, Bool.and_true, Option.some.injEq]
  rw [Bool.eq_iff_iff]
  simp
 ·intro i f r hf hr
  match i, hf, hr with
  | 0, hf, hr => cases hf; cases hr; exact ⟨by decide, _, _, rfl, rfl, eq_int rfl _ _⟩
  | 1, hf, hr => cases hf; cases hr; exact ⟨by decide, _, _, rfl, rfl, eq_int rfl _ _⟩
  | 2, hf, hr => cases hf; cases hr; exact ⟨by decide, _, _, rfl, rfl, eq_int rfl _ _⟩
  | 3, hf, hr => cases hf; cases hr; exact ⟨by decide, _, _, rfl, rfl, eq_int rfl _ _⟩
  | i + 4, hf, hr => simp at hf
theorem pinSelf (a : PinP) : pev Tryz.prog (Op.equalIn Op.maxDepth 71 (.agg (pinC a).toArray) (.agg (pinC a).toArray)) = some true := by rw [pinEq]; simp
theorem linkSelf (a : LinkP) : pev Tryz.prog (Op.equalIn Op.maxDepth 73 (.agg (linkC a).toArray) (.agg (linkC a).toArray)) = some true := by rw [linkEq]; simp
theorem sameIntsS_ok (a : List Int) (A B : Option Addr) (ca cb : Nat) (h : AH) (Ra : Row h 1 intC A a) (Rb : Row h 1 intC B a) (ha : a.length < 2 ^ 40) :
  FnT Tryz.prog 22 #[.slice A a.length ca, .slice B a.length cb] h (fun v _ => v = .bool true) :=
 (sameInts_ok a a A B ca cb h Ra Rb ha).mono (fun v _ e => ⟨e.1, e.2.trans (boolE (decide_eq_true rfl))⟩) fun _ _ e => e
theorem SameMachines_ok (m : MachP) (S : Sml m) (AB AQ AL AW : Option Addr) (cB cQ cL cW : Nat) (AB' AQ' AL' AW' : Option Addr) (cB' cQ' cL' cW' : Nat) (h : AH) (R : MachR h AB AQ AL AW m) (R' : MachR h AB' AQ' AL' AW' m) :
  FnT Tryz.prog 24 #[machV AB AQ AL AW cB cQ cL cW m, machV AB' AQ' AL' AW' cB' cQ' cL' cW' m] h (fun v _ => v = .bool true) := by
 have s1 := S.b
 have s2 := S.q
 have s3 := S.l
 have s4 := S.w
 have q1 : (m.rods == m.rods) = true := by simp
 have q2 : (m.levers == m.levers) = true := by simp
 have q3 : (m.regs == m.regs) = true := by simp
 have q4 : (m.travel == m.travel) = true := by simp
 have q5 : (m.opn == m.opn) = true := by simp
 have q6 : ((m.pins.length : Int) == (m.pins.length : Int)) = true := by simp
 have q7 : ((m.links.length : Int) == (m.links.length : Int)) = true := by simp
 refine wM Tryz.func24 rfl Tryz.ntmps24 rfl ?_
 refine qE ?_
 refine qB rfl ?_
 refine zG (v := .agg #[.int .i64 _, .int .i64 _, .int .i64 _, .int .i64 _, .int .i64 _, .slice _ _ _, .slice _ _ _, .slice _ _ _, .slice _ _ _]) (cs := [_, _, _, _, _, _, _, _, _]) rfl rfl fun b2 hb2 => ?_
 refine qL [_] rfl ?_
 refine zG (v := .agg #[.int .i64 _, .int .i64 _, .int .i64 _, .int .i64 _, .int .i64 _, .slice _ _ _, .slice _ _ _, .slice _ _ _, .slice _ _ _]) (cs := [_, _, _, _, _, _, _, _, _]) rfl rfl fun b3 hb3 => ?_
 refine qL [_, _] rfl ?_
 refine qA (qD (v := .bool _) rfl) ?_
 refine qE ?_
 refine qB rfl ?_
 refine qA (qF rfl rfl rfl rfl 0 rfl) ?_
 refine qJ 0 (v := .int .i64 _) rfl rfl rfl rfl ?_
 refine qA (qF rfl rfl rfl rfl 0 rfl) ?_
 refine qJ 1 (v := .int .i64 _) rfl rfl rfl rfl ?_
 refine qA (qN (v := .bool _) rfl) ?_
 refine qA (qC (v := .bool _) rfl) ?_
 refine qG rfl q1 ?_
 refine qA (qF rfl rfl rfl rfl 1 rfl) ?_
 refine qG rfl q1 ?_
 refine qJ 0 (v := .int .i64 _) rfl rfl rfl rfl ?_
 refine qG rfl q1 ?_
 refine qA (qF rfl rfl rfl rfl 1 rfl) ?_
 refine qG rfl q1 ?_
 refine qJ 1 (v := .int .i64 _) rfl rfl rfl rfl ?_
 refine qG rfl q1 ?_
 refine qA (qN (v := .bool _) rfl) ?_
 refine qA (wP rfl q1 (v := .bool _) rfl) ?_
 refine qA (qC (v := .bool _) rfl) ?_
 refine qG rfl q2 ?_
 refine qA (qF rfl rfl rfl rfl 2 rfl) ?_
 refine qG rfl q2 ?_
 refine qJ 0 (v := .int .i64 _) rfl rfl rfl rfl ?_
 refine qG rfl q2 ?_
 refine qA (qF rfl rfl rfl rfl 2 rfl) ?_
 refine qG rfl q2 ?_
 refine qJ 1 (v := .int .i64 _) rfl rfl rfl rfl ?_
 refine qG rfl q2 ?_
 refine qA (qN (v := .bool _) rfl) ?_
 refine qA (wP rfl q2 (v := .bool _) rfl) ?_
 refine qA (qC (v := .bool _) rfl) ?_
 refine qG rfl q3 ?_
 refine qA (qF rfl rfl rfl rfl 3 rfl) ?_
 refine qG rfl q3 ?_
 refine qJ 0 (v := .int .i64 _) rfl rfl rfl rfl ?_
 refine qG rfl q3 ?_
 refine qA (qF rfl rfl rfl rfl 3 rfl) ?_
 refine qG rfl q3 ?_
 refine qJ 1 (v := .int .i64 _) rfl rfl rfl rfl ?_
 refine qG rfl q3 ?_
 refine qA (qN (v := .bool _) rfl) ?_
 refine qA (wP rfl q3 (v := .bool _) rfl) ?_
 refine qA (qC (v := .bool _) rfl) ?_
 refine qG rfl q4 ?_
 refine qA (qF rfl rfl rfl rfl 4 rfl) ?_
 refine qG rfl q4 ?_
 refine qJ 0 (v := .int .i64 _) rfl rfl rfl rfl ?_
 refine qG rfl q4 ?_
 refine qA (qF rfl rfl rfl rfl 4 rfl) ?_
 refine qG rfl q4 ?_
 refine qJ 1 (v := .int .i64 _) rfl rfl rfl rfl ?_
 refine qG rfl q4 ?_
 refine qA (qN (v := .bool _) rfl) ?_
 refine qA (wP rfl q4 (v := .bool _) rfl) ?_
 refine qA (qC (v := .bool _) rfl) ?_
 refine qG rfl q5 ?_
 refine qA (qF rfl rfl rfl rfl 5 rfl) ?_
 refine qG rfl q5 ?_
 refine qJ 0 (v := .slice _ _ _) rfl rfl rfl rfl ?_
 refine qG rfl q5 ?_
 refine qA (qF rfl rfl rfl rfl 5 rfl) ?_
 refine qG rfl q5 ?_
 refine qJ 1 (v := .slice _ _ _) rfl rfl rfl rfl ?_
 refine qG rfl q5 ?_
 refine wJ (caps := []) (vs := [.slice _ _ _, .slice _ _ _]) rfl rfl rfl (sameIntsS_ok m.buttons _ _ _ _ h (R.b.ext (Ext.refl _)) (R'.b.ext (Ext.refl _)) (by omega)) ?_
 rintro _ h3 E3 rfl
 refine qA (wP rfl q5 (v := .bool _) rfl) ?_
 refine qA (qC (v := .bool _) rfl) ?_
 refine qG rfl rfl ?_
 refine qA (qF rfl rfl rfl rfl 8 rfl) ?_
 refine qG rfl rfl ?_
 refine qJ 0 (v := .slice _ _ _) rfl rfl rfl rfl ?_
 refine qG rfl rfl ?_
 refine qA (qF rfl rfl rfl rfl 8 rfl) ?_
 refine qG rfl rfl ?_
 refine qJ 1 (v := .slice _ _ _) rfl rfl rfl rfl ?_
 refine qG rfl rfl ?_
 refine wJ (caps := []) (vs := [.slice _ _ _, .slice _ _ _]) rfl rfl rfl (sameIntsS_ok m.weights _ _ _ _ h3 (R.w.ext E3) (R'.w.ext E3) (by omega)) ?_
 rintro _ h4 E4 rfl
 refine qA (wP rfl rfl (v := .bool _) rfl) ?_
 refine qA (qC (v := .bool _) rfl) ?_
 refine qG rfl rfl ?_
 refine qA (qF rfl rfl rfl rfl 6 rfl) ?_
 refine qG rfl rfl ?_
 refine qJ 0 (v := .slice _ _ _) rfl rfl rfl rfl ?_
 refine qG rfl rfl ?_
 refine qA (wK rfl rfl) ?_
 refine qG rfl rfl ?_
 refine qA (qF rfl rfl rfl rfl 6 rfl) ?_
 refine qG rfl rfl ?_
 refine qJ 1 (v := .slice _ _ _) rfl rfl rfl rfl ?_
 refine qG rfl rfl ?_
 refine qA (wK rfl rfl) ?_
 refine qG rfl rfl ?_
 refine qA (qN (v := .bool _) rfl) ?_
 refine qA (wP rfl rfl (v := .bool _) rfl) ?_
 refine qA (qC (v := .bool _) rfl) ?_
 refine qG rfl q6 ?_
 refine qA (qF rfl rfl rfl rfl 7 rfl) ?_
 refine qG rfl q6 ?_
 refine qJ 0 (v := .slice _ _ _) rfl rfl rfl rfl ?_
 refine qG rfl q6 ?_
 refine qA (wK rfl rfl) ?_
 refine qG rfl q6 ?_
 refine qA (qF rfl rfl rfl rfl 7 rfl) ?_
 refine qG rfl q6 ?_
 refine qJ 1 (v := .slice _ _ _) rfl rfl rfl rfl ?_
 refine qG rfl q6 ?_
 refine qA (wK rfl rfl) ?_
 refine qG rfl q6 ?_
 refine qA (qN (v := .bool _) rfl) ?_
 refine qA (wP rfl q6 (v := .bool _) rfl) ?_
 refine qA (qD (v := .bool _) rfl) ?_
 refine qE ?_
 refine qE ?_
 refine qB rfl ?_
 refine qA (qD (v := .int .i64 _) rfl) ?_
 refine qQ ?_
 refine zP [5, 6, 73, 74, 75, 76, 77, 78, 79, 80, 81, 82, 83, 84, 85, 86, 87, 88, 89, 90, 91, 92, 93] 2 (α := Nat) (fun k => [(5, .bool true), (6, .int .i64 k)]) (fun k => _) (fun k h_k => k ≤ m.pins.length) (fun k => m.pins.length - k) (0) ⟨boolE q7, rfl, trivial⟩ (rfl) (Nat.zero_le _) ?_
 rintro k T1 h_k E_k J_k
 refine qT [_, _] rfl ?_
 refine qE ?_
 refine qE ?_
 refine qB rfl ?_
 refine qA (qC (v := .bool _) rfl) ?_
 refine qA (qC (v := .bool _) rfl) ?_
 refine qG rfl rfl ?_
 refine qA (qC (v := .int .i64 _) rfl) ?_
 refine qG rfl rfl ?_
 refine qA (qF rfl rfl rfl rfl 6 rfl) ?_
 refine qG rfl rfl ?_
 refine qJ 0 (v := .slice _ _ _) rfl rfl rfl rfl ?_
 refine qG rfl rfl ?_
 refine qA (wK rfl rfl) ?_
 refine qG rfl rfl ?_
 refine qA (qN (v := .bool _) rfl) ?_
 refine qA (wP rfl rfl (v := .bool _) rfl) ?_
 refine qU rfl (fun ht => ?_) (fun ht => ?_)
 ·skip
  have hkl : k < m.pins.length := ltI ht
  obtain ⟨g, off, hA, hc⟩ := (R.q.ext (zT (zT E3 E4) E_k)).at (by omega) hkl
  obtain ⟨g2, off2, hB, hd⟩ := (R'.q.ext (zT (zT E3 E4) E_k)).at (by omega) hkl
  refine qR ?_
  refine qE ?_
  refine qQ ?_
  refine xp_dw [] rfl rfl rfl ?_
  refine qI (i := 0) rfl (by decide +kernel) (qF rfl rfl rfl rfl 6 rfl) ?_
  refine wH (i := 1) rfl (by decide +kernel) ?_
  refine qJ 0 (v := .slice _ _ _) rfl rfl rfl rfl ?_
  refine qI (i := 2) rfl (by decide +kernel) (qC (v := .int .i64 _) rfl) ?_
  refine qI (i := 3) rfl (by decide +kernel) (wG rfl hA rfl rfl rfl (by omega) (by omega)) ?_
  refine wH (i := 4) rfl (by decide +kernel) ?_
  refine zK rfl rfl rfl rfl (hc) ?_
  refine qI (i := 5) rfl (by decide +kernel) (qF rfl rfl rfl rfl 6 rfl) ?_
  refine wH (i := 6) rfl (by decide +kernel) ?_
  refine qJ 1 (v := .slice _ _ _) rfl rfl rfl rfl ?_
  refine qI (i := 7) rfl (by decide +kernel) (qC (v := .int .i64 _) rfl) ?_
  refine qI (i := 8) rfl (by decide +kernel) (wG rfl hB rfl rfl rfl (by omega) (by omega)) ?_
  refine wH (i := 9) rfl (by decide +kernel) ?_
  refine zK rfl rfl rfl rfl (hd) ?_
  refine qI (i := 10) rfl (by decide +kernel) (pv_eqA rfl rfl (by kernel_rfl) (pinSelf _)) ?_
  refine qI (i := 11) rfl (by decide +kernel) (qD (v := .bool _) rfl) ?_
  refine zN rfl ?_
  refine qB rfl ?_
  refine qA (qC (v := .int .i64 _) rfl) ?_
  refine qA (qS rfl (by omega)) ?_
  refine qA (qD (v := .int .i64 _) rfl) ?_
  refine ⟨k + 1, ⟨rfl, rfl, trivial⟩, rfl, rfl, E_k, fun h3 E3 => hkl, by first | omega | (dsimp only; omega), ?_⟩
  repeat (first | exact qW _ _ _ | refine wD (by decide) ?_ | refine qV rfl ?_ | refine wE rfl ?_)
 ·skip
  have hke : k = m.pins.length := by have := geI ht; omega
  subst hke
  refine wV ?_
  refine qE ?_
  refine qE ?_
  refine qB rfl ?_
  refine qA (qD (v := .int .i64 _) rfl) ?_
  refine qQ ?_
  refine zP [5, 7, 94, 95, 96, 97, 98, 99, 100, 101, 102, 103, 104, 105, 106, 107, 108, 109, 110, 111, 112, 113, 114] 2 (α := Nat) (fun j => [(5, .bool true), (7, .int .i64 j)]) (fun j => _) (fun j h_j => j ≤ m.links.length) (fun j => m.links.length - j) (0) ⟨rfl, rfl, trivial⟩ (rfl) (Nat.zero_le _) ?_
  rintro j T2 h_j E_j J_j
  refine qT [_, _] rfl ?_
  refine qE ?_
  refine qE ?_
  refine qB rfl ?_
  refine qA (qC (v := .bool _) rfl) ?_
  refine qA (qC (v := .bool _) rfl) ?_
  refine qG rfl rfl ?_
  refine qA (qC (v := .int .i64 _) rfl) ?_
  refine qG rfl rfl ?_
  refine qA (qF rfl rfl rfl rfl 7 rfl) ?_
  refine qG rfl rfl ?_
  refine qJ 0 (v := .slice _ _ _) rfl rfl rfl rfl ?_
  refine qG rfl rfl ?_
  refine qA (wK rfl rfl) ?_
  refine qG rfl rfl ?_
  refine qA (qN (v := .bool _) rfl) ?_
  refine qA (wP rfl rfl (v := .bool _) rfl) ?_
  refine qU rfl (fun hj => ?_) (fun hj => ?_)
  ·skip
   have hkl : j < m.links.length := ltI hj
   obtain ⟨g, off, hA, hc⟩ := (R.l.ext (zT (zT (zT E3 E4) E_k) E_j)).at (by omega) hkl
   obtain ⟨g2, off2, hB, hd⟩ := (R'.l.ext (zT (zT (zT E3 E4) E_k) E_j)).at (by omega) hkl
   refine qR ?_
   refine qE ?_
   refine qQ ?_
   refine xp_dw [] rfl rfl rfl ?_
   refine qI (i := 0) rfl (by decide +kernel) (qF rfl rfl rfl rfl 7 rfl) ?_
   refine wH (i := 1) rfl (by decide +kernel) ?_
   refine qJ 0 (v := .slice _ _ _) rfl rfl rfl rfl ?_
   refine qI (i := 2) rfl (by decide +kernel) (qC (v := .int .i64 _) rfl) ?_
   refine qI (i := 3) rfl (by decide +kernel) (wG rfl hA rfl rfl rfl (by omega) (by omega)) ?_
   refine wH (i := 4) rfl (by decide +kernel) ?_
   refine zK rfl rfl rfl rfl (hc) ?_
   refine qI (i := 5) rfl (by decide +kernel) (qF rfl rfl rfl rfl 7 rfl) ?_
   refine wH (i := 6) rfl (by decide +kernel) ?_
   refine qJ 1 (v := .slice _ _ _) rfl rfl rfl rfl ?_
   refine qI (i := 7) rfl (by decide +kernel) (qC (v := .int .i64 _) rfl) ?_
   refine qI (i := 8) rfl (by decide +kernel) (wG rfl hB rfl rfl rfl (by omega) (by omega)) ?_
   refine wH (i := 9) rfl (by decide +kernel) ?_
   refine zK rfl rfl rfl rfl (hd) ?_
   refine qI (i := 10) rfl (by decide +kernel) (pv_eqA rfl rfl (by kernel_rfl) (linkSelf _)) ?_
   refine qI (i := 11) rfl (by decide +kernel) (qD (v := .bool _) rfl) ?_
   refine zN rfl ?_
   refine qB rfl ?_
   refine qA (qC (v := .int .i64 _) rfl) ?_
   refine qA (qS rfl (by omega)) ?_
   refine qA (qD (v := .int .i64 _) rfl) ?_
   refine ⟨j + 1, ⟨rfl, rfl, trivial⟩, rfl, rfl, E_j, fun h3 E3 => hkl, by first | omega | (dsimp only; omega), ?_⟩
   repeat (first | exact qW _ _ _ | refine wD (by decide) ?_ | refine qV rfl ?_ | refine wE rfl ?_)
  ·skip
   refine wV ?_
   refine qE ?_
   refine qB rfl ?_
   refine qA (qC (v := .bool _) rfl) ?_
   refine qA (qD (v := .bool _) rfl) ?_
   refine qZ ?_
   refine qP (vs := [_]) Tryz.results24 ⟨qM rfl rfl, trivial⟩ fun V => ?_
   exact ⟨(zT (zT (zT (zT E3 E4) E_k) E_j) (qX V)), rfl⟩
def largeB (m : MachP) (a : HandP) : Bool := decide ((m.buttons.length : Int) > 20) || decide ((m.pins.length : Int) > 20) || decide ((m.links.length : Int) > 20) || decide ((m.weights.length : Int) > 20) || decide ((a.buttons.length : Int) > 20) || decide ((a.on.length : Int) > 20)
theorem large_ok (m : MachP) (a : HandP) (AB AQ AL AW HA OA : Option Addr) (cB cQ cL cW cH cO : Nat) (h : AH) :
  FnT Tryz.prog 4 #[machV AB AQ AL AW cB cQ cL cW m, handV HA OA cH cO a] h (fun v _ => v = .bool (largeB m a)) := by
 refine wM Tryz.func4 rfl Tryz.ntmps4 rfl ?_
 refine qE ?_
 refine qB rfl ?_
 refine zG (v := .agg #[.int .i64 _, .int .i64 _, .int .i64 _, .int .i64 _, .int .i64 _, .slice _ _ _, .slice _ _ _, .slice _ _ _, .slice _ _ _]) (cs := [_, _, _, _, _, _, _, _, _]) rfl rfl fun b2 hb2 => ?_
 refine qL [_] rfl ?_
 refine zG (v := .agg #[.slice _ _ _, .slice _ _ _]) (cs := [_, _]) rfl rfl fun b3 hb3 => ?_
 refine qL [_, _] rfl ?_
 refine qA (qD (v := .bool _) rfl) ?_
 rcases Bool.eq_false_or_eq_true (decide ((m.buttons.length : Int) > 20)) with e0 | e0
 ·skip
  refine qE ?_
  refine qB rfl ?_
  refine qA (qF rfl rfl rfl rfl 5 rfl) ?_
  refine qJ 0 (v := .slice _ _ _) rfl rfl rfl rfl ?_
  refine qA (wK rfl rfl) ?_
  refine qA (qN (v := .bool _) rfl) ?_
  refine qA (qC (v := .bool _) rfl) ?_
  refine qK rfl e0 ?_
  refine qK rfl e0 ?_
  refine qK rfl e0 ?_
  refine qK rfl e0 ?_
  refine qA (wP rfl e0 (v := .bool _) rfl) ?_
  refine qA (qC (v := .bool _) rfl) ?_
  refine qK rfl rfl ?_
  refine qK rfl rfl ?_
  refine qK rfl rfl ?_
  refine qK rfl rfl ?_
  refine qA (wP rfl rfl (v := .bool _) rfl) ?_
  refine qA (qC (v := .bool _) rfl) ?_
  refine qK rfl rfl ?_
  refine qK rfl rfl ?_
  refine qK rfl rfl ?_
  refine qK rfl rfl ?_
  refine qA (wP rfl rfl (v := .bool _) rfl) ?_
  refine qA (qC (v := .bool _) rfl) ?_
  refine qK rfl rfl ?_
  refine qK rfl rfl ?_
  refine qK rfl rfl ?_
  refine qK rfl rfl ?_
  refine qA (wP rfl rfl (v := .bool _) rfl) ?_
  refine qA (qC (v := .bool _) rfl) ?_
  refine qK rfl rfl ?_
  refine qK rfl rfl ?_
  refine qK rfl rfl ?_
  refine qK rfl rfl ?_
  refine qA (wP rfl rfl (v := .bool _) rfl) ?_
  refine qA (qD (v := .bool _) rfl) ?_
  refine qZ ?_
  refine qP (vs := [_]) Tryz.results4 ⟨qM rfl rfl, trivial⟩ fun V => ?_
  exact ⟨(qX V), boolE (by rw [largeB, e0]; simp)⟩
 ·skip
  rcases Bool.eq_false_or_eq_true (decide ((m.pins.length : Int) > 20)) with e1 | e1
  ·skip
   refine qE ?_
   refine qB rfl ?_
   refine qA (qF rfl rfl rfl rfl 5 rfl) ?_
   refine qJ 0 (v := .slice _ _ _) rfl rfl rfl rfl ?_
   refine qA (wK rfl rfl) ?_
   refine qA (qN (v := .bool _) rfl) ?_
   refine qA (qC (v := .bool _) rfl) ?_
   refine qG rfl e0 ?_
   refine qA (qF rfl rfl rfl rfl 6 rfl) ?_
   refine qG rfl e0 ?_
   refine qJ 0 (v := .slice _ _ _) rfl rfl rfl rfl ?_
   refine qG rfl e0 ?_
   refine qA (wK rfl rfl) ?_
   refine qG rfl e0 ?_
   refine qA (qN (v := .bool _) rfl) ?_
   refine qA (wT rfl e0 (v := .bool _) rfl) ?_
   refine qA (qC (v := .bool _) rfl) ?_
   refine qK rfl e1 ?_
   refine qK rfl e1 ?_
   refine qK rfl e1 ?_
   refine qK rfl e1 ?_
   refine qA (wP rfl e1 (v := .bool _) rfl) ?_
   refine qA (qC (v := .bool _) rfl) ?_
   refine qK rfl rfl ?_
   refine qK rfl rfl ?_
   refine qK rfl rfl ?_
   refine qK rfl rfl ?_
   refine qA (wP rfl rfl (v := .bool _) rfl) ?_
   refine qA (qC (v := .bool _) rfl) ?_
   refine qK rfl rfl ?_
   refine qK rfl rfl ?_
   refine qK rfl rfl ?_
   refine qK rfl rfl ?_
   refine qA (wP rfl rfl (v := .bool _) rfl) ?_
   refine qA (qC (v := .bool _) rfl) ?_
   refine qK rfl rfl ?_
   refine qK rfl rfl ?_
   refine qK rfl rfl ?_
   refine qK rfl rfl ?_
   refine qA (wP rfl rfl (v := .bool _) rfl) ?_
   refine qA (qD (v := .bool _) rfl) ?_
   refine qZ ?_
   refine qP (vs := [_]) Tryz.results4 ⟨qM rfl rfl, trivial⟩ fun V => ?_
   exact ⟨(qX V), boolE (by rw [largeB, e0, e1]; simp)⟩
  ·skip
   rcases Bool.eq_false_or_eq_true (decide ((m.links.length : Int) > 20)) with e2 | e2
   ·skip
    refine qE ?_
    refine qB rfl ?_
    refine qA (qF rfl rfl rfl rfl 5 rfl) ?_
    refine qJ 0 (v := .slice _ _ _) rfl rfl rfl rfl ?_
    refine qA (wK rfl rfl) ?_
    refine qA (qN (v := .bool _) rfl) ?_
    refine qA (qC (v := .bool _) rfl) ?_
    refine qG rfl e0 ?_
    refine qA (qF rfl rfl rfl rfl 6 rfl) ?_
    refine qG rfl e0 ?_
    refine qJ 0 (v := .slice _ _ _) rfl rfl rfl rfl ?_
    refine qG rfl e0 ?_
    refine qA (wK rfl rfl) ?_
    refine qG rfl e0 ?_
    refine qA (qN (v := .bool _) rfl) ?_
    refine qA (wT rfl e0 (v := .bool _) rfl) ?_
    refine qA (qC (v := .bool _) rfl) ?_
    refine qG rfl e1 ?_
    refine qA (qF rfl rfl rfl rfl 7 rfl) ?_
    refine qG rfl e1 ?_
    refine qJ 0 (v := .slice _ _ _) rfl rfl rfl rfl ?_
    refine qG rfl e1 ?_
    refine qA (wK rfl rfl) ?_
    refine qG rfl e1 ?_
    refine qA (qN (v := .bool _) rfl) ?_
    refine qA (wT rfl e1 (v := .bool _) rfl) ?_
    refine qA (qC (v := .bool _) rfl) ?_
    refine qK rfl e2 ?_
    refine qK rfl e2 ?_
    refine qK rfl e2 ?_
    refine qK rfl e2 ?_
    refine qA (wP rfl e2 (v := .bool _) rfl) ?_
    refine qA (qC (v := .bool _) rfl) ?_
    refine qK rfl rfl ?_
    refine qK rfl rfl ?_
    refine qK rfl rfl ?_
    refine qK rfl rfl ?_
    refine qA (wP rfl rfl (v := .bool _) rfl) ?_
    refine qA (qC (v := .bool _) rfl) ?_
    refine qK rfl rfl ?_
    refine qK rfl rfl ?_
    refine qK rfl rfl ?_
    refine qK rfl rfl ?_
    refine qA (wP rfl rfl (v := .bool _) rfl) ?_
    refine qA (qD (v := .bool _) rfl) ?_
    refine qZ ?_
    refine qP (vs := [_]) Tryz.results4 ⟨qM rfl rfl, trivial⟩ fun V => ?_
    exact ⟨(qX V), boolE (by rw [largeB, e0, e1, e2]; simp)⟩
   ·skip
    rcases Bool.eq_false_or_eq_true (decide ((m.weights.length : Int) > 20)) with e3 | e3
    ·skip
     refine qE ?_
     refine qB rfl ?_
     refine qA (qF rfl rfl rfl rfl 5 rfl) ?_
     refine qJ 0 (v := .slice _ _ _) rfl rfl rfl rfl ?_
     refine qA (wK rfl rfl) ?_
     refine qA (qN (v := .bool _) rfl) ?_
     refine qA (qC (v := .bool _) rfl) ?_
     refine qG rfl e0 ?_
     refine qA (qF rfl rfl rfl rfl 6 rfl) ?_
     refine qG rfl e0 ?_
     refine qJ 0 (v := .slice _ _ _) rfl rfl rfl rfl ?_
     refine qG rfl e0 ?_
     refine qA (wK rfl rfl) ?_
     refine qG rfl e0 ?_
     refine qA (qN (v := .bool _) rfl) ?_
     refine qA (wT rfl e0 (v := .bool _) rfl) ?_
     refine qA (qC (v := .bool _) rfl) ?_
     refine qG rfl e1 ?_
     refine qA (qF rfl rfl rfl rfl 7 rfl) ?_
     refine qG rfl e1 ?_
     refine qJ 0 (v := .slice _ _ _) rfl rfl rfl rfl ?_
     refine qG rfl e1 ?_
     refine qA (wK rfl rfl) ?_
     refine qG rfl e1 ?_
     refine qA (qN (v := .bool _) rfl) ?_
     refine qA (wT rfl e1 (v := .bool _) rfl) ?_
     refine qA (qC (v := .bool _) rfl) ?_
     refine qG rfl e2 ?_
     refine qA (qF rfl rfl rfl rfl 8 rfl) ?_
     refine qG rfl e2 ?_
     refine qJ 0 (v := .slice _ _ _) rfl rfl rfl rfl ?_
     refine qG rfl e2 ?_
     refine qA (wK rfl rfl) ?_
     refine qG rfl e2 ?_
     refine qA (qN (v := .bool _) rfl) ?_
     refine qA (wT rfl e2 (v := .bool _) rfl) ?_
     refine qA (qC (v := .bool _) rfl) ?_
     refine qK rfl e3 ?_
     refine qK rfl e3 ?_
     refine qK rfl e3 ?_
     refine qK rfl e3 ?_
     refine qA (wP rfl e3 (v := .bool _) rfl) ?_
     refine qA (qC (v := .bool _) rfl) ?_
     refine qK rfl rfl ?_
     refine qK rfl rfl ?_
     refine qK rfl rfl ?_
     refine qK rfl rfl ?_
     refine qA (wP rfl rfl (v := .bool _) rfl) ?_
     refine qA (qD (v := .bool _) rfl) ?_
     refine qZ ?_
     refine qP (vs := [_]) Tryz.results4 ⟨qM rfl rfl, trivial⟩ fun V => ?_
     exact ⟨(qX V), boolE (by rw [largeB, e0, e1, e2, e3]; simp)⟩
    ·skip
     rcases Bool.eq_false_or_eq_true (decide ((a.buttons.length : Int) > 20)) with e4 | e4
     ·skip
      refine qE ?_
      refine qB rfl ?_
      refine qA (qF rfl rfl rfl rfl 5 rfl) ?_
      refine qJ 0 (v := .slice _ _ _) rfl rfl rfl rfl ?_
      refine qA (wK rfl rfl) ?_
      refine qA (qN (v := .bool _) rfl) ?_
      refine qA (qC (v := .bool _) rfl) ?_
      refine qG rfl e0 ?_
      refine qA (qF rfl rfl rfl rfl 6 rfl) ?_
      refine qG rfl e0 ?_
      refine qJ 0 (v := .slice _ _ _) rfl rfl rfl rfl ?_
      refine qG rfl e0 ?_
      refine qA (wK rfl rfl) ?_
      refine qG rfl e0 ?_
      refine qA (qN (v := .bool _) rfl) ?_
      refine qA (wT rfl e0 (v := .bool _) rfl) ?_
      refine qA (qC (v := .bool _) rfl) ?_
      refine qG rfl e1 ?_
      refine qA (qF rfl rfl rfl rfl 7 rfl) ?_
      refine qG rfl e1 ?_
      refine qJ 0 (v := .slice _ _ _) rfl rfl rfl rfl ?_
      refine qG rfl e1 ?_
      refine qA (wK rfl rfl) ?_
      refine qG rfl e1 ?_
      refine qA (qN (v := .bool _) rfl) ?_
      refine qA (wT rfl e1 (v := .bool _) rfl) ?_
      refine qA (qC (v := .bool _) rfl) ?_
      refine qG rfl e2 ?_
      refine qA (qF rfl rfl rfl rfl 8 rfl) ?_
      refine qG rfl e2 ?_
      refine qJ 0 (v := .slice _ _ _) rfl rfl rfl rfl ?_
      refine qG rfl e2 ?_
      refine qA (wK rfl rfl) ?_
      refine qG rfl e2 ?_
      refine qA (qN (v := .bool _) rfl) ?_
      refine qA (wT rfl e2 (v := .bool _) rfl) ?_
      refine qA (qC (v := .bool _) rfl) ?_
      refine qG rfl e3 ?_
      refine qA (qF rfl rfl rfl rfl 0 rfl) ?_
      refine qG rfl e3 ?_
      refine qJ 1 (v := .slice _ _ _) rfl rfl rfl rfl ?_
      refine qG rfl e3 ?_
      refine qA (wK rfl rfl) ?_
      refine qG rfl e3 ?_
      refine qA (qN (v := .bool _) rfl) ?_
      refine qA (wT rfl e3 (v := .bool _) rfl) ?_
      refine qA (qC (v := .bool _) rfl) ?_
      refine qK rfl e4 ?_
      refine qK rfl e4 ?_
      refine qK rfl e4 ?_
      refine qK rfl e4 ?_
      refine qA (wP rfl e4 (v := .bool _) rfl) ?_
      refine qA (qD (v := .bool _) rfl) ?_
      refine qZ ?_
      refine qP (vs := [_]) Tryz.results4 ⟨qM rfl rfl, trivial⟩ fun V => ?_
      exact ⟨(qX V), boolE (by rw [largeB, e0, e1, e2, e3, e4]; simp)⟩
     ·skip
      refine qE ?_
      refine qB rfl ?_
      refine qA (qF rfl rfl rfl rfl 5 rfl) ?_
      refine qJ 0 (v := .slice _ _ _) rfl rfl rfl rfl ?_
      refine qA (wK rfl rfl) ?_
      refine qA (qN (v := .bool _) rfl) ?_
      refine qA (qC (v := .bool _) rfl) ?_
      refine qG rfl e0 ?_
      refine qA (qF rfl rfl rfl rfl 6 rfl) ?_
      refine qG rfl e0 ?_
      refine qJ 0 (v := .slice _ _ _) rfl rfl rfl rfl ?_
      refine qG rfl e0 ?_
      refine qA (wK rfl rfl) ?_
      refine qG rfl e0 ?_
      refine qA (qN (v := .bool _) rfl) ?_
      refine qA (wT rfl e0 (v := .bool _) rfl) ?_
      refine qA (qC (v := .bool _) rfl) ?_
      refine qG rfl e1 ?_
      refine qA (qF rfl rfl rfl rfl 7 rfl) ?_
      refine qG rfl e1 ?_
      refine qJ 0 (v := .slice _ _ _) rfl rfl rfl rfl ?_
      refine qG rfl e1 ?_
      refine qA (wK rfl rfl) ?_
      refine qG rfl e1 ?_
      refine qA (qN (v := .bool _) rfl) ?_
      refine qA (wT rfl e1 (v := .bool _) rfl) ?_
      refine qA (qC (v := .bool _) rfl) ?_
      refine qG rfl e2 ?_
      refine qA (qF rfl rfl rfl rfl 8 rfl) ?_
      refine qG rfl e2 ?_
      refine qJ 0 (v := .slice _ _ _) rfl rfl rfl rfl ?_
      refine qG rfl e2 ?_
      refine qA (wK rfl rfl) ?_
      refine qG rfl e2 ?_
      refine qA (qN (v := .bool _) rfl) ?_
      refine qA (wT rfl e2 (v := .bool _) rfl) ?_
      refine qA (qC (v := .bool _) rfl) ?_
      refine qG rfl e3 ?_
      refine qA (qF rfl rfl rfl rfl 0 rfl) ?_
      refine qG rfl e3 ?_
      refine qJ 1 (v := .slice _ _ _) rfl rfl rfl rfl ?_
      refine qG rfl e3 ?_
      refine qA (wK rfl rfl) ?_
      refine qG rfl e3 ?_
      refine qA (qN (v := .bool _) rfl) ?_
      refine qA (wT rfl e3 (v := .bool _) rfl) ?_
      refine qA (qC (v := .bool _) rfl) ?_
      refine qG rfl e4 ?_
      refine qA (qF rfl rfl rfl rfl 1 rfl) ?_
      refine qG rfl e4 ?_
      refine qJ 1 (v := .slice _ _ _) rfl rfl rfl rfl ?_
      refine qG rfl e4 ?_
      refine qA (wK rfl rfl) ?_
      refine qG rfl e4 ?_
      refine qA (qN (v := .bool _) rfl) ?_
      refine qA (wT rfl e4 (v := .bool _) rfl) ?_
      refine qA (qD (v := .bool _) rfl) ?_
      refine qZ ?_
      refine qP (vs := [_]) Tryz.results4 ⟨qM rfl rfl, trivial⟩ fun V => ?_
      exact ⟨(qX V), boolE (by rw [largeB, e0, e1, e2, e3, e4]; rfl)⟩
theorem large_sml {m : MachP} {a : HandP} (h : largeB m a = false) : Sml m ∧ SmlH a := by
 simp only [largeB, Bool.or_eq_false_iff, decide_eq_false_iff_not] at h
 obtain ⟨⟨⟨⟨⟨h1, h2⟩, h3⟩, h4⟩, h5⟩, h6⟩ := h
 exact ⟨⟨by omega, by omega, by omega, by omega⟩, ⟨by omega, by omega⟩⟩
end
end Go.Proofs.YthphpbdmbmiaiaaGreat
namespace Go.Proofs.YthphpbdmbmiaiaaGreat
open Go Go.HL Go.Proofs Go.Wx Go.Rd
section
variable [Lvl]
set_option maxRecDepth 100000
theorem checkHeardG_ok (m : MachP) (S : Sml m) (hs : List HeardP) (HN : HLen hs) (AB AQ AL AW UA : Option Addr) (cB cQ cL cW cU : Nat) (cs : List (List Value)) (h : AH) (RM : MachR h AB AQ AL AW m) (R : Row h 3 id UA cs) (EL : Els h TU hs cs) :
  FnT Tryz.prog 43 #[machV AB AQ AL AW cB cQ cL cW m, .slice UA hs.length cU] h (fun v _ => v = .int .i64 (checkHeardM m hs)) := by
 have hn1 := HN.1
 refine wM Tryz.func43 rfl Tryz.ntmps43 rfl ?_
 refine qE ?_
 refine qB rfl ?_
 refine zG (v := .agg #[.int .i64 _, .int .i64 _, .int .i64 _, .int .i64 _, .int .i64 _, .slice _ _ _, .slice _ _ _, .slice _ _ _, .slice _ _ _]) (cs := [_, _, _, _, _, _, _, _, _]) rfl rfl fun b2 hb2 => ?_
 refine qL [_] rfl ?_
 refine qA (qD (v := .int .i64 _) rfl) ?_
 refine qE ?_
 refine qE ?_
 refine qB rfl ?_
 refine qY 0 (vs := [.int .i64 _, .int .i64 _, .int .i64 _, .int .i64 _, .int .i64 _, .slice _ _ _, .slice _ _ _, .slice _ _ _, .slice _ _ _]) rfl rfl rfl rfl rfl ?_
 refine wJ (caps := []) (vs := [.agg #[.int .i64 _, .int .i64 _, .int .i64 _, .int .i64 _, .int .i64 _, .slice _ _ _, .slice _ _ _, .slice _ _ _, .slice _ _ _]]) rfl rfl rfl (CheckS_ok m S AB AQ AL AW cB cQ cL cW h (RM.ext (Ext.refl _))) ?_
 rintro _ h1 E1 rfl
 refine qA (qD (v := .int .i64 _) rfl) ?_
 refine qE ?_
 refine qB rfl ?_
 refine qA (qC (v := .int .i64 _) rfl) ?_
 refine qA (qN (v := .bool _) rfl) ?_
 refine qU rfl (fun hc => ?_) (fun hc => ?_)
 ·skip
  have hc' : chkM m ≠ 0 := by simpa using hc
  refine qE ?_
  refine qB rfl ?_
  refine qA (qC (v := .int .i64 _) rfl) ?_
  refine qA (qD (v := .int .i64 _) rfl) ?_
  refine qZ ?_
  refine qP (vs := [_]) Tryz.results43 ⟨qM rfl rfl, trivial⟩ fun V => ?_
  exact ⟨(zT E1 (qX V)), intE (by rw [checkHeardM, if_pos hc'])⟩
 ·skip
  have hc' : chkM m = 0 := by simpa using hc
  have M := check_ok hc'
  have lv := M.levers
  refine qR ?_
  refine qE ?_
  refine qE ?_
  refine qB rfl ?_
  refine qA (qC (v := .slice _ _ _) rfl) ?_
  refine qA (wK rfl rfl) ?_
  refine qA (qN (v := .bool _) rfl) ?_
  refine qU rfl (fun h5 => ?_) (fun h5 => ?_)
  ·skip
   have h5' : hs.length > 5 := by simp at h5; omega
   refine qE ?_
   refine qB rfl ?_
   refine qA (qD (v := .int .i64 _) rfl) ?_
   refine qZ ?_
   refine qP (vs := [_]) Tryz.results43 ⟨qM rfl rfl, trivial⟩ fun V => ?_
   exact ⟨(zT E1 (qX V)), intE (by rw [checkHeardM, if_neg (by simp [hc']), if_pos h5'])⟩
  ·skip
   have h5' : ¬ hs.length > 5 := by simp at h5; omega
   have C : checkHeardM m hs = firstErr (heard1M m) hs := by rw [checkHeardM, if_neg (by simp [hc']), if_neg h5']
   refine qR ?_
   refine qE ?_
   refine qE ?_
   refine qB rfl ?_
   refine qA (qD (v := .int .i64 _) rfl) ?_
   refine qQ ?_
   refine zP [4, 6, 7, 8, 17, 18, 19, 20, 21, 22, 23, 24, 25, 26, 27, 28, 29, 30, 31, 32, 33, 34, 35, 36, 37, 38, 39, 40, 41, 42, 43] 1 (α := Nat) (fun k => [(6, .int .i64 k)]) (fun k => _) (fun k h_k => k ≤ hs.length ∧ firstErr (heard1M m) (hs.take k) = 0) (fun k => hs.length - k) (0) ⟨rfl, trivial⟩ (rfl) (⟨Nat.zero_le _, rfl⟩) ?_
   rintro k T1 h_k E_k J_k
   refine qT [_] rfl ?_
   obtain ⟨K1, K2⟩ := J_k
   refine qE ?_
   refine qE ?_
   refine qB rfl ?_
   refine qA (qC (v := .int .i64 _) rfl) ?_
   refine qA (qC (v := .slice _ _ _) rfl) ?_
   refine qA (wK rfl rfl) ?_
   refine qA (qN (v := .bool _) rfl) ?_
   refine qU rfl (fun hk => ?_) (fun hk => ?_)
   ·skip
    have hkl : k < hs.length := ltI hk
    obtain ⟨l1, l2, l3⟩ := HN.2 _ (List.getElem_mem hkl)
    obtain ⟨hkc, B0, O0, U0, e0, ⟨HA, cH, rfl, r1⟩, ⟨OA, cO, rfl, r2⟩, ⟨XA, cX, rfl, r3⟩⟩ := (EL.ext TU.mono (zT E1 E_k)).at hkl
    obtain ⟨g, off, hA, hc⟩ := (R.ext (zT E1 E_k)).at (by omega) hkc
    have hc : Cells h_k g (off + k * 3) [.slice HA hs[k].hand.buttons.length cH, .slice OA hs[k].hand.on.length cO, .slice XA hs[k].sounds.length cX] := by rw [← e0]; exact hc
    refine qR ?_
    refine qE ?_
    refine qQ ?_
    refine qE ?_
    refine qE ?_
    refine xp_dw [] rfl rfl rfl ?_
    refine wH (i := 0) rfl (by decide +kernel) ?_
    refine qY 0 (vs := [.int .i64 _, .int .i64 _, .int .i64 _, .int .i64 _, .int .i64 _, .slice _ _ _, .slice _ _ _, .slice _ _ _, .slice _ _ _]) rfl rfl rfl rfl rfl ?_
    refine qI (i := 1) rfl (by decide +kernel) (qC (v := .slice _ _ _) rfl) ?_
    refine qI (i := 2) rfl (by decide +kernel) (qC (v := .int .i64 _) rfl) ?_
    refine qI (i := 3) rfl (by decide +kernel) (wG (m := 3) rfl hA rfl rfl rfl (by omega) (by omega)) ?_
    refine qI (i := 4) rfl (by decide +kernel) (qF rfl rfl rfl rfl _ rfl) ?_
    refine wH (i := 5) rfl (by decide +kernel) ?_
    refine zK rfl rfl rfl rfl (hc.part 0 2) ?_
    refine zA (i := 6) rfl (by decide +kernel) (by decide +kernel) ?_
    refine wJ (caps := []) (vs := [.agg _, .agg _]) rfl rfl rfl (checkHandR_ok m M hs[k].hand AB AQ AL AW HA OA cB cQ cL cW cH cO h_k ⟨r1, r2⟩ l1 l2) ?_
    rintro _ h3 E3 rfl
    refine qI (i := 7) rfl (by decide +kernel) (qD (v := .int .i64 _) rfl) ?_
    refine zN rfl ?_
    refine qE ?_
    refine qB rfl ?_
    refine qA (qC (v := .int .i64 _) rfl) ?_
    refine qA (qN (v := .bool _) rfl) ?_
    refine qU rfl (fun hw => ?_) (fun hw => ?_)
    ·skip
     have hw' : checkHandM m hs[k].hand ≠ 0 := by simpa using hw
     have ew : heard1M m hs[k] = checkHandM m hs[k].hand := by rw [heard1M, if_pos hw']
     refine qE ?_
     refine qB rfl ?_
     refine qA (qC (v := .int .i64 _) rfl) ?_
     refine qA (qD (v := .int .i64 _) rfl) ?_
     refine qZ ?_
     refine qP (vs := [_]) Tryz.results43 ⟨qM rfl rfl, trivial⟩ fun V => ?_
     refine ⟨(zT (zT (zT E1 E_k) E3) (qX V)), intE ?_⟩
     rw [C, zM hkl K2 (by rw [ew]; exact hw'), ew]
    ·skip
     have hw' : checkHandM m hs[k].hand = 0 := by simpa using hw
     have ew : heard1M m hs[k] = checkSetM hs[k].sounds m.levers := by rw [heard1M, if_neg (by simp [hw'])]
     refine qR ?_
     refine qE ?_
     refine xp_dw [] rfl rfl rfl ?_
     refine qI (i := 0) rfl (by decide +kernel) (qC (v := .slice _ _ _) rfl) ?_
     refine qI (i := 1) rfl (by decide +kernel) (qC (v := .int .i64 _) rfl) ?_
     refine qI (i := 2) rfl (by decide +kernel) (wG (m := 3) rfl hA rfl rfl rfl (by omega) (by omega)) ?_
     refine qI (i := 3) rfl (by decide +kernel) (qF rfl rfl rfl rfl _ rfl) ?_
     refine wH (i := 4) rfl (by decide +kernel) ?_
     refine wS (v := .slice _ _ _) rfl rfl ((hc.ext E3) 2 _ rfl) ?_
     refine qI (i := 5) rfl (by decide +kernel) (qF rfl rfl rfl rfl 1 rfl) ?_
     refine wH (i := 6) rfl (by decide +kernel) ?_
     refine qJ 0 (v := .int .i64 _) rfl rfl rfl rfl ?_
     refine zA (i := 7) rfl (by decide +kernel) (by decide +kernel) ?_
     refine wJ (caps := []) (vs := [.slice _ _ _, .int .i64 _]) rfl rfl rfl (checkSetR_ok hs[k].sounds m.levers (by omega) XA cX h3 (r3.ext E3) l3) ?_
     rintro _ h4 E4 rfl
     refine qI (i := 8) rfl (by decide +kernel) (qD (v := .int .i64 _) rfl) ?_
     refine zN rfl ?_
     refine qE ?_
     refine qB rfl ?_
     refine qA (qC (v := .int .i64 _) rfl) ?_
     refine qA (qN (v := .bool _) rfl) ?_
     refine qU rfl (fun hz => ?_) (fun hz => ?_)
     ·skip
      have hz' : checkSetM hs[k].sounds m.levers ≠ 0 := by simpa using hz
      refine qE ?_
      refine qB rfl ?_
      refine qA (qC (v := .int .i64 _) rfl) ?_
      refine qA (qD (v := .int .i64 _) rfl) ?_
      refine qZ ?_
      refine qP (vs := [_]) Tryz.results43 ⟨qM rfl rfl, trivial⟩ fun V => ?_
      refine ⟨(zT (zT (zT (zT E1 E_k) E3) E4) (qX V)), intE ?_⟩
      rw [C, zM hkl K2 (by rw [ew]; exact hz'), ew]
     ·skip
      have hz' : checkSetM hs[k].sounds m.levers = 0 := by simpa using hz
      refine qR ?_
      refine qB rfl ?_
      refine qA (qC (v := .int .i64 _) rfl) ?_
      refine qA (qS rfl (by omega)) ?_
      refine qA (qD (v := .int .i64 _) rfl) ?_
      refine ⟨k + 1, ⟨rfl, trivial⟩, rfl, rfl, (zT (zT E_k E3) E4), fun h3 E3 => ⟨hkl, firstErr_go hkl K2 (by rw [ew, hz'])⟩, by first | omega | (dsimp only; omega), ?_⟩
      repeat (first | exact qW _ _ _ | refine wD (by decide) ?_ | refine qV rfl ?_ | refine wE rfl ?_)
   ·skip
    have hke : k = hs.length := by have := geI hk; omega
    subst hke
    rw [List.take_length] at K2
    refine wV ?_
    refine qE ?_
    refine qB rfl ?_
    refine qA (qD (v := .int .i64 _) rfl) ?_
    refine qZ ?_
    refine qP (vs := [_]) Tryz.results43 ⟨qM rfl rfl, trivial⟩ fun V => ?_
    exact ⟨(zT (zT E1 E_k) (qX V)), intE (by rw [C, K2])⟩
theorem explainsR_ok (m : MachP) (M : MOK m) (l : List Int) (SL : SetOK l (faultsM m).length) (hs : List HeardP) (hl5 : hs.length ≤ 5) (X : ∀ x ∈ hs, HeardOK m x) (AB AQ AL AW NA UA : Option Addr) (cB cQ cL cW cN cU : Nat) (hcQ : m.pins.length ≤ cQ) (hcL : m.links.length ≤ cL) (cs : List (List Value)) (h : AH) (RM : MachR h AB AQ AL AW m) (RN : Row h 1 intC NA l) (R : Row h 3 id UA cs) (EL : Els h TU hs cs) :
  FnT Tryz.prog 69 #[machV AB AQ AL AW cB cQ cL cW m, .slice NA l.length cN, .slice UA hs.length cU] h (fun v _ => v = .bool (explainsB m (pickL m l) hs)) := by
 have hf := pickL_fok M SL.mem
 refine wM Tryz.func69 rfl Tryz.ntmps69 rfl ?_
 refine qE ?_
 refine qB rfl ?_
 refine zG (v := .agg #[.int .i64 _, .int .i64 _, .int .i64 _, .int .i64 _, .int .i64 _, .slice _ _ _, .slice _ _ _, .slice _ _ _, .slice _ _ _]) (cs := [_, _, _, _, _, _, _, _, _]) rfl rfl fun b3 hb3 => ?_
 refine qL [_] rfl ?_
 refine qA (qD (v := .bool _) rfl) ?_
 refine qE ?_
 refine qE ?_
 refine qB rfl ?_
 refine qA (qD (v := .int .i64 _) rfl) ?_
 refine qQ ?_
 refine zP [6, 7, 8, 9, 10, 11, 12, 13, 14, 15, 16, 17, 18, 19, 20, 21, 22, 23, 24, 25, 26, 27, 28] 1 (α := Nat) (fun k => [(7, .int .i64 k)]) (fun k => _) (fun k h_k => k ≤ hs.length ∧ ∀ x ∈ hs.take k, listN (soundsB m (pickL m l) x.hand) 6 = x.sounds) (fun k => hs.length - k) (0) ⟨rfl, trivial⟩ (rfl) (⟨Nat.zero_le _, fun x hx => by simp at hx⟩) ?_
 rintro k T1 h_k E_k J_k
 refine qT [_] rfl ?_
 obtain ⟨K1, K2⟩ := J_k
 refine qE ?_
 refine qE ?_
 refine qB rfl ?_
 refine qA (qC (v := .int .i64 _) rfl) ?_
 refine qA (qC (v := .slice _ _ _) rfl) ?_
 refine qA (wK rfl rfl) ?_
 refine qA (qN (v := .bool _) rfl) ?_
 refine qU rfl (fun hk => ?_) (fun hk => ?_)
 ·skip
  have hkl : k < hs.length := ltI hk
  have Xk := X _ (List.getElem_mem hkl)
  obtain ⟨hkc, B0, O0, U0, e0, ⟨HA, cH, rfl, r1⟩, ⟨OA, cO, rfl, r2⟩, ⟨XA, cX, rfl, r3⟩⟩ := (EL.ext TU.mono E_k).at hkl
  obtain ⟨g, off, hA, hc⟩ := (R.ext E_k).at (by omega) hkc
  have hc : Cells h_k g (off + k * 3) [.slice HA hs[k].hand.buttons.length cH, .slice OA hs[k].hand.on.length cO, .slice XA hs[k].sounds.length cX] := by rw [← e0]; exact hc
  have bl := listN_len (soundsB m (pickL m l) hs[k].hand) 6
  have sl : hs[k].sounds.length < 2 ^ 40 := by
   have := set_len (below := m.levers.toNat) (by rw [Int.toNat_of_nonneg (by have := M.levers; omega)]; exact Xk.s)
   have := M.levers
   omega
  refine qR ?_
  refine qE ?_
  refine qQ ?_
  refine qE ?_
  refine xp_dw [] rfl rfl rfl ?_
  refine wH (i := 0) rfl (by decide +kernel) ?_
  refine qY 0 (vs := [.int .i64 _, .int .i64 _, .int .i64 _, .int .i64 _, .int .i64 _, .slice _ _ _, .slice _ _ _, .slice _ _ _, .slice _ _ _]) rfl rfl rfl rfl rfl ?_
  refine qI (i := 1) rfl (by decide +kernel) (qC (v := .slice _ _ _) rfl) ?_
  refine qI (i := 2) rfl (by decide +kernel) (qC (v := .slice _ _ _) rfl) ?_
  refine qI (i := 3) rfl (by decide +kernel) (qC (v := .int .i64 _) rfl) ?_
  refine qI (i := 4) rfl (by decide +kernel) (wG (m := 3) rfl hA rfl rfl rfl (by omega) (by omega)) ?_
  refine qI (i := 5) rfl (by decide +kernel) (qF rfl rfl rfl rfl _ rfl) ?_
  refine wH (i := 6) rfl (by decide +kernel) ?_
  refine zK rfl rfl rfl rfl (hc.part 0 2) ?_
  refine qI (i := 8) rfl (by decide +kernel) (qC (v := .slice _ _ _) rfl) ?_
  refine qI (i := 9) rfl (by decide +kernel) (qC (v := .int .i64 _) rfl) ?_
  refine qI (i := 10) rfl (by decide +kernel) (wG (m := 3) rfl hA rfl rfl rfl (by omega) (by omega)) ?_
  refine qI (i := 11) rfl (by decide +kernel) (qF rfl rfl rfl rfl _ rfl) ?_
  refine wH (i := 12) rfl (by decide +kernel) ?_
  refine wS (v := .slice _ _ _) rfl rfl (hc 2 _ rfl) ?_
  refine dw_eff (i := 7) rfl (by decide +kernel) ?_
  refine wJ (caps := []) (vs := [.agg _, .slice _ _ _, .agg _]) rfl rfl rfl (brokenR_ok m M l SL hs[k].hand Xk.h AB AQ AL AW NA HA OA cB cQ cL cW cN cH cO hcQ hcL h_k (RM.ext E_k) (RN.ext E_k) ⟨r1, r2⟩) ?_
  rintro _ h3 E3 ⟨A3, c3, rfl, R3⟩
  refine ⟨ext_wlm E3 _, ?_⟩
  refine zA (i := 13) rfl (by decide +kernel) (by decide +kernel) ?_
  refine wJ (caps := []) (vs := [.slice _ _ _, .slice _ _ _]) rfl rfl rfl (sameR_ok (listN (soundsB m (pickL m l) hs[k].hand) 6) hs[k].sounds _ _ _ _ h3 (R3.ext (Ext.refl _)) (r3.ext E3) (by omega) sl) ?_
  rintro _ h4 E4 rfl
  refine qI (i := 14) rfl (by decide +kernel) (qN (v := .bool _) rfl) ?_
  refine zN rfl ?_
  refine qU rfl (fun hn => ?_) (fun hn => ?_)
  ·skip
   have hn' : ¬ listN (soundsB m (pickL m l) hs[k].hand) 6 = hs[k].sounds := by simpa using hn
   refine qE ?_
   refine qB rfl ?_
   refine qA (qD (v := .bool _) rfl) ?_
   refine qZ ?_
   refine qP (vs := [_]) Tryz.results69 ⟨qM rfl rfl, trivial⟩ fun V => ?_
   refine ⟨(zT (zT (zT E_k E3) E4) (qX V)), boolE ?_⟩
   rw [eq_comm, ← Bool.not_eq_true, explains_iff2 M hf X]
   exact fun hall => hn' (hall _ (List.getElem_mem hkl))
  ·skip
   have hn' : listN (soundsB m (pickL m l) hs[k].hand) 6 = hs[k].sounds := by simpa using hn
   refine qR ?_
   refine qB rfl ?_
   refine qA (qC (v := .int .i64 _) rfl) ?_
   refine qA (qS rfl (by omega)) ?_
   refine qA (qD (v := .int .i64 _) rfl) ?_
   refine ⟨k + 1, ⟨rfl, trivial⟩, rfl, rfl, (zT (zT E_k E3) E4), fun h3 E3 => ⟨hkl, by rw [take_snoc hkl]; exact mem_one K2 hn'⟩, by first | omega | (dsimp only; omega), ?_⟩
   repeat (first | exact qW _ _ _ | refine wD (by decide) ?_ | refine qV rfl ?_ | refine wE rfl ?_)
 ·skip
  have hke : k = hs.length := by have := geI hk; omega
  subst hke
  rw [List.take_length] at K2
  refine wV ?_
  refine qE ?_
  refine qB rfl ?_
  refine qA (qD (v := .bool _) rfl) ?_
  refine qZ ?_
  refine qP (vs := [_]) Tryz.results69 ⟨qM rfl rfl, trivial⟩ fun V => ?_
  exact ⟨(zT E_k (qX V)), boolE (by rw [eq_comm, explains_iff2 M hf X]; exact K2)⟩
theorem pick_one {m : MachP} {k : Nat} (hk : k < (faultsM m).length) : pickL m [(k : Int)] = pickF m k := by
 rw [pickF, if_neg (by omega), Int.toNat_natCast, List.drop_eq_getElem_cons hk, List.take_succ_cons, List.take_zero]
 show [(faultsM m).getD (k : Int).toNat (.shut 0)] = _
 rw [Int.toNat_natCast, List.getD_eq_getElem?_getD, List.getElem?_eq_getElem hk]
 rfl
set_option maxHeartbeats 4000000 in
theorem suspectsR_ok (m : MachP) (M : MOK m) (hs : List HeardP) (hl5 : hs.length ≤ 5) (X : ∀ x ∈ hs, HeardOK m x) (AB AQ AL AW UA : Option Addr) (cB cQ cL cW cU : Nat) (hcQ : m.pins.length ≤ cQ) (hcL : m.links.length ≤ cL) (cs : List (List Value)) (h : AH) (RM : MachR h AB AQ AL AW m) (R : Row h 3 id UA cs) (EL : Els h TU hs cs) :
  FnT Tryz.prog 44 #[machV AB AQ AL AW cB cQ cL cW m, .slice UA hs.length cU] h (fun v h' => SlR h' 1 intC (suspectsM m hs) v) := by
 have f24 := faults24 M
 refine wM Tryz.func44 rfl Tryz.ntmps44 rfl ?_
 refine qE ?_
 refine qB rfl ?_
 refine zG (v := .agg #[.int .i64 _, .int .i64 _, .int .i64 _, .int .i64 _, .int .i64 _, .slice _ _ _, .slice _ _ _, .slice _ _ _, .slice _ _ _]) (cs := [_, _, _, _, _, _, _, _, _]) rfl rfl fun b2 hb2 => ?_
 refine qL [_] rfl ?_
 refine qA (qD (v := .slice _ _ _) rfl) ?_
 refine goes_more ?_
 refine qT [_, _] rfl ?_
 refine qE ?_
 refine qB rfl ?_
 refine qA (qD (v := .slice _ _ _) rfl) ?_
 refine xp_cutB [5, 7, 8, 9, 10, 11, 12] 2 (α := Acc) (fun a => [(5, .slice a.A a.n a.c)]) (fun a L => L.set 1 (a.p)) (fun a h_a => AccR 3 1 ((suspN m hs 0).flatMap intC) a) ?_ ?_
 ·skip
  refine qE ?_
  refine qB rfl ?_
  refine qY 0 (vs := [.int .i64 _, .int .i64 _, .int .i64 _, .int .i64 _, .int .i64 _, .slice _ _ _, .slice _ _ _, .slice _ _ _, .slice _ _ _]) rfl rfl rfl rfl rfl ?_
  refine qA (qC (v := .slice _ _ _) rfl) ?_
  refine wJ (caps := []) (vs := [.agg _, .slice _ _ _, .slice _ _ _]) rfl rfl rfl (explainsR_ok m M [] (set_nil _) hs hl5 X AB AQ AL AW none UA cB cQ cL cW 0 cU hcQ hcL cs h (RM.ext (Ext.refl _)) (row_nil _ _) (R.ext (Ext.refl _)) (EL.ext TU.mono (Ext.refl _))) ?_
  rintro _ h3 E3 rfl
  rw [show explainsB m (pickL m []) hs = explainsB m [] hs from rfl]
  have hacc0 : AccR 3 1 ([] : List Value) acc0 := accR0
  refine qU rfl (fun he => ?_) (fun he => ?_)
  ·skip
   refine qB rfl ?_
   refine qA (qC (v := .slice _ _ _) rfl) ?_
   refine wA (zc := [_]) (vs := [(0, .int .i64 _)]) (cs := [_]) rfl rfl rfl rfl rfl rfl rfl fun b11 hb11 => ?_
   refine qL [_, _, _] rfl ?_
   refine wZ 1 hacc0 rfl rfl rfl (fun V => rdP V (i := 2) rfl) rfl rfl rfl rfl rfl rfl rfl rfl rfl (by omega) rfl (by simp) fun a2 h2a E2a ha2 => ?_
   refine qL [_, _, _] rfl ?_
   refine qA (qD (v := .slice _ _ _) rfl) ?_
   refine ⟨a2, ⟨rfl, trivial⟩, rfl, rfl, (zT E3 E2a), fun h3 E3 => by rw [suspN, if_pos he]; exact ha2, ?_⟩
   repeat (first | exact zR _ _ | exact qW _ _ _ | refine wD (by decide) ?_ | refine qV rfl ?_ | refine wE rfl ?_)
  ·skip
   refine qR ?_
   refine ⟨acc0, ⟨rfl, trivial⟩, rfl, rfl, E3, fun h3 E3 => by rw [suspN, if_neg (by rw [he]; decide)]; exact accR0, ?_⟩
   repeat (first | exact zR _ _ | exact qW _ _ _ | refine wD (by decide) ?_ | refine qV rfl ?_ | refine wE rfl ?_)
 ·rintro a T1 h_a E_a J_a
  refine qT [_, _] rfl ?_
  refine qE ?_
  refine qE ?_
  refine qB rfl ?_
  refine qA (qD (v := .int .i64 _) rfl) ?_
  refine qQ ?_
  refine zH [5, 6, 13, 14, 15, 16, 17, 18, 19, 20, 21, 22, 23, 24, 25, 26, 27, 28] 2 (α := Nat × Acc) (fun ⟨k, a2⟩ => [(6, .int .i64 k), (5, .slice a2.A a2.n a2.c)]) (fun ⟨k, a2⟩ L => L.set 1 (a2.p)) (fun ⟨k, a2⟩ h_k => k ≤ (faultsM m).length ∧ AccR 3 1 ((suspN m hs k).flatMap intC) a2) (fun ⟨k, a2⟩ => (faultsM m).length - k) ((0, a)) ⟨rfl, rfl, trivial⟩ (rfl) (⟨Nat.zero_le _, J_a⟩) ?_
  rintro ⟨k, a2⟩ T3 h_k E_k J_k
  refine qT [_, _] rfl ?_
  obtain ⟨K1, K2⟩ := J_k
  refine qE ?_
  refine qE ?_
  refine qB rfl ?_
  refine qA (qC (v := .int .i64 _) rfl) ?_
  refine qY 0 (vs := [.int .i64 _, .int .i64 _, .int .i64 _, .int .i64 _, .int .i64 _, .slice _ _ _, .slice _ _ _, .slice _ _ _, .slice _ _ _]) rfl rfl rfl rfl rfl ?_
  refine wJ (caps := []) (vs := [.agg #[.int .i64 _, .int .i64 _, .int .i64 _, .int .i64 _, .int .i64 _, .slice _ _ _, .slice _ _ _, .slice _ _ _, .slice _ _ _]]) rfl rfl rfl (faultsR_ok m M AB AQ AL AW cB cQ cL cW h_k) ?_
  rintro _ h4 E4 ⟨FA, cF, rfl, RF⟩
  refine qA (wK rfl rfl) ?_
  refine qA (qN (v := .bool _) rfl) ?_
  refine qU rfl (fun hk => ?_) (fun hk => ?_)
  ·skip
   have hkl : k < (faultsM m).length := ltI hk
   have hss := susp_succ (hs := hs) hkl
   have hsl := suspN_len m hs k
   have L1 := explainsR_ok m M [(k : Int)] (set_one ⟨by omega, by omega⟩) hs hl5 X AB AQ AL AW
   rw [pick_one hkl] at L1
   refine qR ?_
   refine qE ?_
   refine qQ ?_
   refine qE ?_
   refine qB rfl ?_
   refine qY 0 (vs := [.int .i64 _, .int .i64 _, .int .i64 _, .int .i64 _, .int .i64 _, .slice _ _ _, .slice _ _ _, .slice _ _ _, .slice _ _ _]) rfl rfl rfl rfl rfl ?_
   refine qA (qC (v := .int .i64 _) rfl) ?_
   refine wA (zc := [_]) (vs := [(0, .int .i64 _)]) (cs := [_]) rfl rfl rfl rfl rfl rfl rfl fun b22 hb22 => ?_
   refine qL [_, _, _] rfl ?_
   refine qA (qC (v := .slice _ _ _) rfl) ?_
   refine wp_pub 2 rfl rfl ?_
   intro g1 G1 p1
   refine qL [_, _, _] rfl ?_
   refine wJ (caps := []) (vs := [.agg _, .slice _ _ _, .slice _ _ _]) rfl rfl rfl (L1 (some ⟨b22, 0, none⟩) UA cB cQ cL cW 1 cU hcQ hcL cs g1 (RM.ext (zT (zT (zT E_a E_k) E4) G1)) (row_one p1) (R.ext (zT (zT (zT E_a E_k) E4) G1)) (EL.ext TU.mono (zT (zT (zT E_a E_k) E4) G1))) ?_
   rintro _ h5 E5 rfl
   refine qU rfl (fun he => ?_) (fun he => ?_)
   ·skip
    refine qB rfl ?_
    refine qA (qC (v := .slice _ _ _) rfl) ?_
    refine qA (qC (v := .int .i64 _) rfl) ?_
    refine wA (zc := [_]) (vs := [(0, .int .i64 _)]) (cs := [_]) rfl rfl rfl rfl rfl rfl rfl fun b27 hb27 => ?_
    refine qL [_, _, _, _] rfl ?_
    refine wZ 1 K2 rfl rfl rfl (fun V => rdP V (i := 3) rfl) rfl rfl rfl rfl rfl rfl rfl rfl rfl (by omega) rfl (by rw [wN (m := 1) (fun _ _ => rfl)]; simp; omega) fun a3 h4a E4a ha3 => ?_
    refine qL [_, _, _, _] rfl ?_
    refine qA (qD (v := .slice _ _ _) rfl) ?_
    refine qB rfl ?_
    refine qA (qC (v := .int .i64 _) rfl) ?_
    refine qA (qS rfl (by omega)) ?_
    refine qA (qD (v := .int .i64 _) rfl) ?_
    refine ⟨(k + 1, a3), ⟨rfl, rfl, trivial⟩, rfl, rfl, (zT (zT (zT (zT E_k E4) G1) E5) E4a), fun h3 E3 => ⟨hkl, by rw [hss, if_pos he, List.flatMap_append]; exact ha3⟩, by first | omega | (dsimp only; omega), ?_⟩
    repeat (first | exact qW _ _ _ | refine wD (by decide) ?_ | refine qV rfl ?_ | refine wE rfl ?_)
   ·skip
    refine qR ?_
    refine qB rfl ?_
    refine qA (qC (v := .int .i64 _) rfl) ?_
    refine qA (qS rfl (by omega)) ?_
    refine qA (qD (v := .int .i64 _) rfl) ?_
    refine ⟨(k + 1, a2), ⟨rfl, rfl, trivial⟩, rfl, rfl, (zT (zT (zT E_k E4) G1) E5), fun h3 E3 => ⟨hkl, by rw [hss, if_neg (by rw [he]; decide)]; exact K2⟩, by first | omega | (dsimp only; omega), ?_⟩
    repeat (first | exact qW _ _ _ | refine wD (by decide) ?_ | refine qV rfl ?_ | refine wE rfl ?_)
  ·skip
   have hke : k = (faultsM m).length := by have := geI hk; omega
   subst hke
   have hsl := suspN_len m hs (faultsM m).length
   refine wV ?_
   refine qE ?_
   refine qB rfl ?_
   refine qA (qC (v := .slice _ _ _) rfl) ?_
   refine qA (qD (v := .slice _ _ _) rfl) ?_
   refine qZ ?_
   refine qP (vs := [_]) Tryz.results44 ⟨qM rfl rfl, trivial⟩ fun V => ?_
   exact ⟨(zT (zT (zT E_a E_k) E4) (qX V)), AccP.row (i := 1) K2 (by omega) (fun _ _ => rfl) V rfl⟩
theorem SuspectsG_ok (m : MachP) (S : Sml m) (hs : List HeardP) (HN : HLen hs) (AB AQ AL AW UA : Option Addr) (cB cQ cL cW cU : Nat) (hcQ : m.pins.length ≤ cQ) (hcL : m.links.length ≤ cL) (cs : List (List Value)) (h : AH) (RM : MachR h AB AQ AL AW m) (R : Row h 3 id UA cs) (EL : Els h TU hs cs) :
  FnT Tryz.prog 15 #[machV AB AQ AL AW cB cQ cL cW m, .slice UA hs.length cU] h (fun v h' => ∃ L, v = .tuple #[L, .int .i64 (suspE m hs)] ∧ SlR h' 1 intC (suspL m hs) L) := by
 refine wM Tryz.func15 rfl Tryz.ntmps15 rfl ?_
 refine qE ?_
 refine qB rfl ?_
 refine zG (v := .agg #[.int .i64 _, .int .i64 _, .int .i64 _, .int .i64 _, .int .i64 _, .slice _ _ _, .slice _ _ _, .slice _ _ _, .slice _ _ _]) (cs := [_, _, _, _, _, _, _, _, _]) rfl rfl fun b2 hb2 => ?_
 refine qL [_] rfl ?_
 refine qA (qD (v := .slice _ _ _) rfl) ?_
 refine qA (qD (v := .int .i64 _) rfl) ?_
 refine qE ?_
 refine qE ?_
 refine qB rfl ?_
 refine qY 0 (vs := [.int .i64 _, .int .i64 _, .int .i64 _, .int .i64 _, .int .i64 _, .slice _ _ _, .slice _ _ _, .slice _ _ _, .slice _ _ _]) rfl rfl rfl rfl rfl ?_
 refine qA (qC (v := .slice _ _ _) rfl) ?_
 refine wJ (caps := []) (vs := [.agg #[.int .i64 _, .int .i64 _, .int .i64 _, .int .i64 _, .int .i64 _, .slice _ _ _, .slice _ _ _, .slice _ _ _, .slice _ _ _], .slice _ _ _]) rfl rfl rfl (checkHeardG_ok m S hs HN AB AQ AL AW UA cB cQ cL cW cU cs h (RM.ext (Ext.refl _)) (R.ext (Ext.refl _)) (EL.ext TU.mono (Ext.refl _))) ?_
 rintro _ h3 E3 rfl
 refine qA (qD (v := .int .i64 _) rfl) ?_
 refine qE ?_
 refine qB rfl ?_
 refine qA (qC (v := .int .i64 _) rfl) ?_
 refine qA (qN (v := .bool _) rfl) ?_
 refine qU rfl (fun hc => ?_) (fun hc => ?_)
 ·skip
  have hc' : checkHeardM m hs ≠ 0 := by simpa using hc
  have eE : suspE m hs = checkHeardM m hs := by rw [suspE, if_pos hc']
  refine qE ?_
  refine qB rfl ?_
  refine qA (qC (v := .int .i64 _) rfl) ?_
  refine qA (qD (v := .slice _ _ _) rfl) ?_
  refine qA (qD (v := .int .i64 _) rfl) ?_
  refine qZ ?_
  refine qP (vs := [_, _]) Tryz.results15 ⟨qM rfl rfl, qM rfl rfl, trivial⟩ fun V => ?_
  exact ⟨(zT E3 (qX V)), _, by rw [eE]; rfl, none, 0, by rw [suspL, eE, if_neg hc']; rfl, by rw [suspL, eE, if_neg hc']; exact row_nil _ _⟩
 ·skip
  have hc' : checkHeardM m hs = 0 := by simpa using hc
  obtain ⟨M, hl5, X⟩ := checkHeard_zero hc'
  have eE : suspE m hs = if (suspectsM m hs).length = 0 then 11 else 0 := by rw [suspE, if_neg (by simp [hc'])]
  refine qR ?_
  refine qE ?_
  refine qB rfl ?_
  refine qY 0 (vs := [.int .i64 _, .int .i64 _, .int .i64 _, .int .i64 _, .int .i64 _, .slice _ _ _, .slice _ _ _, .slice _ _ _, .slice _ _ _]) rfl rfl rfl rfl rfl ?_
  refine qA (qC (v := .slice _ _ _) rfl) ?_
  refine wJ (caps := []) (vs := [.agg _, .slice _ _ _]) rfl rfl rfl (suspectsR_ok m M hs hl5 X AB AQ AL AW UA cB cQ cL cW cU hcQ hcL cs h3 (RM.ext E3) (R.ext E3) (EL.ext TU.mono E3)) ?_
  rintro _ h4 E4 ⟨A4, c4, rfl, R4⟩
  refine qA (qD (v := .slice _ _ _) rfl) ?_
  refine qE ?_
  refine qE ?_
  refine qB rfl ?_
  refine qA (qC (v := .slice _ _ _) rfl) ?_
  refine qA (wK rfl rfl) ?_
  refine qA (qN (v := .bool _) rfl) ?_
  refine qU rfl (fun hz => ?_) (fun hz => ?_)
  ·skip
   have hz' : (suspectsM m hs).length = 0 := by simp at hz; simp [hz]
   have eE0 : suspE m hs = 11 := by rw [eE, if_pos hz']
   refine qE ?_
   refine qB rfl ?_
   refine qA (qD (v := .slice _ _ _) rfl) ?_
   refine qA (qD (v := .int .i64 _) rfl) ?_
   refine qZ ?_
   refine qP (vs := [_, _]) Tryz.results15 ⟨qM rfl rfl, qM rfl rfl, trivial⟩ fun V => ?_
   exact ⟨(zT (zT E3 E4) (qX V)), _, by rw [eE0]; rfl, none, 0, by rw [suspL, eE0, if_neg (by decide)]; rfl, by rw [suspL, eE0, if_neg (by decide)]; exact row_nil _ _⟩
  ·skip
   have hz' : ¬ (suspectsM m hs).length = 0 := fun e => by rw [e] at hz; simp at hz
   have eE0 : suspE m hs = 0 := by rw [eE, if_neg hz']
   refine qR ?_
   refine qE ?_
   refine qB rfl ?_
   refine qA (qC (v := .slice _ _ _) rfl) ?_
   refine qA (qD (v := .slice _ _ _) rfl) ?_
   refine qA (qD (v := .int .i64 _) rfl) ?_
   refine qZ ?_
   refine qP (vs := [_, _]) Tryz.results15 ⟨qM rfl rfl, qM rfl rfl, trivial⟩ fun V => ?_
   rw [eE0, suspL, if_pos eE0]
   exact ⟨(zT (zT E3 E4) (qX V)), _, rfl, A4, c4, rfl, R4.ext (qX V)⟩
end
end Go.Proofs.YthphpbdmbmiaiaaGreat
namespace Go.Proofs.YthphpbdmbmiaiaaGreat
open Go Go.HL Go.Proofs Go.Wx Go.Rd
section
variable [Lvl]
set_option maxRecDepth 100000
theorem few_at {m : MachP} (M : MOK m) {hs : List HeardP} {j : Nat} (hj : j ≤ 2) (h : ∀ i, i < j → fewJ m hs i = []) (hn : fewJ m hs j ≠ []) : fewestL m hs = fewJ m hs j := by
 rw [fewest_eq hs (faults24 M).1]
 match j, hj, h, hn with
 | 0, _, _, hn => rw [if_pos hn]
 | 1, _, h, hn => rw [if_neg (by simp [h 0 (by omega)]), if_pos hn]
 | 2, _, h, hn => rw [if_neg (by simp [h 0 (by omega)]), if_neg (by simp [h 1 (by omega)])]
theorem few_none {m : MachP} (M : MOK m) {hs : List HeardP} (h : ∀ i, i < 3 → fewJ m hs i = []) : fewestL m hs = [] := by
 rw [fewest_eq hs (faults24 M).1, if_neg (by simp [h 0 (by omega)]), if_neg (by simp [h 1 (by omega)]), h 2 (by omega)]
set_option maxHeartbeats 4000000 in
theorem ExplainingR_ok (m : MachP) (M : MOK m) (hs : List HeardP) (hl5 : hs.length ≤ 5) (X : ∀ x ∈ hs, HeardOK m x) (AB AQ AL AW UA : Option Addr) (cB cQ cL cW cU : Nat) (hcQ : m.pins.length ≤ cQ) (hcL : m.links.length ≤ cL) (us : List (List Value)) (h : AH) (RM : MachR h AB AQ AL AW m) (R : Row h 3 id UA us) (EL : Els h TU hs us) :
  FnT Tryz.prog 46 #[machV AB AQ AL AW cB cQ cL cW m, .slice UA hs.length cU] h (fun v h' => SlL h' (fewestL m hs) v) := by
 have f24 := faults24 M
 obtain ⟨N, hN⟩ : ∃ N, N = (faultsM m).length := ⟨_, rfl⟩
 refine wM Tryz.func46 rfl Tryz.ntmps46 rfl ?_
 refine qE ?_
 refine qB rfl ?_
 refine zG (v := .agg #[.int .i64 _, .int .i64 _, .int .i64 _, .int .i64 _, .int .i64 _, .slice _ _ _, .slice _ _ _, .slice _ _ _, .slice _ _ _]) (cs := [_, _, _, _, _, _, _, _, _]) rfl rfl fun b2 hb2 => ?_
 refine qL [_] rfl ?_
 refine qA (qD (v := .slice _ _ _) rfl) ?_
 refine goes_more ?_
 refine qT [_, _] rfl ?_
 refine qE ?_
 refine qE ?_
 refine qB rfl ?_
 refine qA (qD (v := .int .i64 _) rfl) ?_
 refine qQ ?_
 refine zH [4, 5, 6, 7, 8, 9, 10, 11, 12, 13, 14, 15, 16, 17, 18, 19, 20, 21, 22, 23, 24, 25, 26, 27, 28, 29, 30, 31, 32, 33, 34, 35, 36, 37, 38, 39, 40, 41] 2 (α := Nat × Acc) (fun ⟨j, a0⟩ => [(5, .int .i64 j)]) (fun ⟨j, a0⟩ L => L.set 1 (a0.p)) (fun ⟨j, a0⟩ h_j => j ≤ 3 ∧ ∀ i, i < j → fewJ m hs i = []) (fun ⟨j, a0⟩ => 3 - j) ((0, acc0)) ⟨rfl, trivial⟩ (rfl) (⟨Nat.zero_le _, fun i h => absurd h (Nat.not_lt_zero _)⟩) ?_
 rintro ⟨j, a0⟩ T1 h_j E_j J_j
 refine qT [_, _] rfl ?_
 obtain ⟨J1, J2⟩ := J_j
 refine qE ?_
 refine qE ?_
 refine qB rfl ?_
 refine qA (qC (v := .int .i64 _) rfl) ?_
 refine qA (qN (v := .bool _) rfl) ?_
 refine qU rfl (fun hj => ?_) (fun hj => ?_)
 ·skip
  have hj2 : j ≤ 2 := by have := of_decide_eq_true hj; omega
  refine goes_pubO 1 rfl ?_
  intro g0 G0 P0
  refine qT [_, _] rfl ?_
  refine qR ?_
  refine qE ?_
  refine qQ ?_
  refine qE ?_
  refine qB rfl ?_
  refine qA (qD (v := .slice _ _ _) rfl) ?_
  refine qE ?_
  refine qB rfl ?_
  refine qY 0 (vs := [.int .i64 _, .int .i64 _, .int .i64 _, .int .i64 _, .int .i64 _, .slice _ _ _, .slice _ _ _, .slice _ _ _, .slice _ _ _]) rfl rfl rfl rfl rfl ?_
  refine wJ (caps := []) (vs := [.agg #[.int .i64 _, .int .i64 _, .int .i64 _, .int .i64 _, .int .i64 _, .slice _ _ _, .slice _ _ _, .slice _ _ _, .slice _ _ _]]) rfl rfl rfl (faultsR_ok m M AB AQ AL AW cB cQ cL cW g0) ?_
  rintro _ h4 E4 ⟨FA, cF, rfl, RF⟩
  have C1 := choicesR_ok (faultsM m).length (by omega) j 0 h4 0 j rfl rfl (by omega) (by omega)
  obtain ⟨C, hC⟩ : ∃ C, C = chosM (faultsM m).length j 0 := ⟨_, rfl⟩
  have hCl : C.length ≤ 16777216 := by
   have h1 := chos_len (n := (faultsM m).length) j 0
   have h2 : 2 ^ ((faultsM m).length - 0) ≤ 2 ^ 24 := Nat.pow_le_pow_right (by omega) (by omega)
   rw [hC]
   omega
  have hCs : ∀ s ∈ C, SetOK s (faultsM m).length := fun s hs' => (chos_set (by rw [← hC]; exact hs')).1
  have hfj : fewJ m hs j = C.filter fun s => explainsB m (pickL m s) hs := by rw [hC]; rfl
  rw [← hC] at C1
  obtain ⟨Ef, hEf⟩ : ∃ Ef : List Int → Bool, Ef = fun s => explainsB m (pickL m s) hs := ⟨_, rfl⟩
  rw [← hEf] at hfj
  refine qA (wK rfl rfl) ?_
  refine qA (qC (v := .int .i64 _) rfl) ?_
  refine wJ (caps := []) (vs := [.int .i64 _, .int .i64 _, .int .i64 _]) rfl rfl rfl (C1) ?_
  rintro _ h5 E5 S5
  obtain ⟨cs, A5, c5, rfl, R5, EL5⟩ := SlX.els S5
  refine qA (qD (v := .slice _ _ _) rfl) ?_
  refine qE ?_
  refine qE ?_
  refine qB rfl ?_
  refine qA (qD (v := .int .i64 _) rfl) ?_
  refine qQ ?_
  refine zH [6, 8, 18, 19, 20, 21, 22, 23, 24, 25, 26, 27, 28, 29, 30, 31, 32, 33, 34, 35, 36, 37] 2 (α := Nat × Acc × List (List Value)) (fun ⟨i, a, ds⟩ => [(8, .int .i64 i), (6, .slice a.A a.n a.c)]) (fun ⟨i, a, ds⟩ L => L.set 1 (a.p)) (fun ⟨i, a, ds⟩ h_i => i ≤ C.length ∧ AccR 22 1 (ds.flatMap id) a ∧ Els h_i TL ((C.take i).filter Ef) ds ∧ ∀ x ∈ ds, x.length = 1) (fun ⟨i, a, ds⟩ => C.length - i) ((0, acc0, [])) ⟨rfl, rfl, trivial⟩ (rfl) (⟨Nat.zero_le _, accR0, Els.nil _ _, fun _ hx => absurd hx List.not_mem_nil⟩) ?_
  rintro ⟨i, a, ds⟩ T2 h_i E_i J_i
  refine qT [_, _] rfl ?_
  obtain ⟨K1, K2, K3, K4⟩ := J_i
  have hft : ((C.take i).filter Ef).length ≤ i := Nat.le_trans (List.length_filter_le _ _) (by rw [List.length_take]; omega)
  refine qE ?_
  refine qE ?_
  refine qB rfl ?_
  refine qA (qC (v := .int .i64 _) rfl) ?_
  refine qA (qC (v := .slice _ _ _) rfl) ?_
  refine qA (wK rfl rfl) ?_
  refine qA (qN (v := .bool _) rfl) ?_
  refine qU rfl (fun hi => ?_) (fun hi => ?_)
  ·skip
   have hil : i < C.length := ltI hi
   have hSs := hCs _ (List.getElem_mem hil)
   have hst : (C.take (i + 1)).filter Ef = (C.take i).filter Ef ++ if Ef C[i] then [C[i]] else [] := by
    rw [take_snoc hil, List.filter_append]
    congr 1
    by_cases he : Ef C[i] = true
    ·rw [List.filter_cons_of_pos he, if_pos he]; rfl
    ·rw [List.filter_cons_of_neg he, if_neg he]; rfl
   obtain ⟨hic, y0, e0, XA, cX, rfl, RX⟩ := (EL5.ext TL.mono E_i).at hil
   obtain ⟨g, off, hA, hcc⟩ := (R5.ext E_i).at (by omega) hic
   have hcc : Cells h_i g (off + i * 1) [.slice XA C[i].length cX] := by rw [← e0]; exact hcc
   have hdl : (ds.flatMap id).length ≤ i := by rw [wN (enc := id) (m := 1) K4, K3.1]; omega
   have L1 := explainsR_ok m M C[i] hSs hs hl5 X AB AQ AL AW XA UA cB cQ cL cW cX cU hcQ hcL us
   rw [show explainsB m (pickL m C[i]) hs = Ef C[i] by rw [hEf]] at L1
   generalize C[i] = s at *
   refine qR ?_
   refine qE ?_
   refine qQ ?_
   refine qE ?_
   refine xp_dw [] rfl rfl rfl ?_
   refine wH (i := 0) rfl (by decide +kernel) ?_
   refine qY 0 (vs := [.int .i64 _, .int .i64 _, .int .i64 _, .int .i64 _, .int .i64 _, .slice _ _ _, .slice _ _ _, .slice _ _ _, .slice _ _ _]) rfl rfl rfl rfl rfl ?_
   refine qI (i := 1) rfl (by decide +kernel) (qC (v := .slice _ _ _) rfl) ?_
   refine qI (i := 2) rfl (by decide +kernel) (qC (v := .int .i64 _) rfl) ?_
   refine qI (i := 3) rfl (by decide +kernel) (wG (m := 1) rfl hA rfl rfl rfl (by omega) (by omega)) ?_
   refine wH (i := 4) rfl (by decide +kernel) ?_
   refine wS (v := .slice _ _ _) rfl rfl ((hcc) 0 _ rfl) ?_
   refine qI (i := 5) rfl (by decide +kernel) (qC (v := .slice _ _ _) rfl) ?_
   refine zA (i := 6) rfl (by decide +kernel) (by decide +kernel) ?_
   refine wJ (caps := []) (vs := [.agg _, .slice _ _ _, .slice _ _ _]) rfl rfl rfl (L1 h_i (RM.ext (zT (zT (zT (zT E_j G0) E4) E5) E_i)) RX (R.ext (zT (zT (zT (zT E_j G0) E4) E5) E_i)) (EL.ext TU.mono (zT (zT (zT (zT E_j G0) E4) E5) E_i))) ?_
   rintro _ h6 E6 rfl
   refine zN rfl ?_
   refine qU rfl (fun he => ?_) (fun he => ?_)
   ·skip
    refine qB rfl ?_
    refine qA (qC (v := .slice _ _ _) rfl) ?_
    refine qA (qC (v := .slice _ _ _) rfl) ?_
    refine qA (qC (v := .int .i64 _) rfl) ?_
    refine qA (wG (m := 1) rfl hA rfl rfl rfl (by omega) (by omega)) ?_
    refine wS (v := .slice _ _ _) rfl rfl (((hcc.ext E6)) 0 _ rfl) ?_
    refine wA (zc := [_]) (vs := [(0, .slice _ _ _)]) (cs := [_]) rfl rfl rfl rfl rfl rfl rfl fun b36 hb36 => ?_
    refine qL [_, _, _] rfl ?_
    refine wZ 1 K2 rfl rfl rfl (fun V => rdP V (i := 2) rfl) rfl rfl rfl rfl rfl rfl rfl rfl rfl (by omega) rfl (by show (ds.flatMap id).length + 1 < 2 ^ 30; omega) fun a2 h3a E3a ha2 => ?_
    refine qL [_, _, _] rfl ?_
    refine qA (qD (v := .slice _ _ _) rfl) ?_
    refine qB rfl ?_
    refine qA (qC (v := .int .i64 _) rfl) ?_
    refine qA (qS rfl (by omega)) ?_
    refine qA (qD (v := .int .i64 _) rfl) ?_
    refine ⟨(i + 1, a2, ds ++ [[.slice XA s.length cX]]), ⟨rfl, rfl, trivial⟩, rfl, rfl, (zT (zT E_i E6) E3a), fun h3 E3 => ⟨hil, by rw [List.flatMap_append]; exact ha2, by rw [hst, if_pos he]; exact ((K3.ext TL.mono (zT E6 E3a)).snoc ⟨_, rfl, XA, cX, rfl, RX.ext (zT E6 E3a)⟩).ext TL.mono E3, one_len K4 rfl⟩, by first | omega | (dsimp only; omega), ?_⟩
    repeat (first | exact qW _ _ _ | refine wD (by decide) ?_ | refine qV rfl ?_ | refine wE rfl ?_)
   ·skip
    refine qR ?_
    refine qB rfl ?_
    refine qA (qC (v := .int .i64 _) rfl) ?_
    refine qA (qS rfl (by omega)) ?_
    refine qA (qD (v := .int .i64 _) rfl) ?_
    refine ⟨(i + 1, a, ds), ⟨rfl, rfl, trivial⟩, rfl, rfl, (zT E_i E6), fun h3 E3 => ⟨hil, K2, by rw [hst, if_neg (by rw [he]; decide), List.append_nil]; exact (K3.ext TL.mono E6).ext TL.mono E3, K4⟩, by first | omega | (dsimp only; omega), ?_⟩
    repeat (first | exact qW _ _ _ | refine wD (by decide) ?_ | refine qV rfl ?_ | refine wE rfl ?_)
  ·skip
   have hie : i = C.length := by have := geI hi; omega
   subst hie
   rw [List.take_length, ← hfj] at K3
   have hn : a.n = (fewJ m hs j).length := by have := AccR.len K2; rw [wN (enc := id) (m := 1) K4, K3.1] at this; omega
   obtain ⟨p9, A9, n9, c9⟩ := a
   dsimp only at hn
   subst hn
   have hfl := fewJ_le M hs j
   refine wV ?_
   refine qE ?_
   refine qB rfl ?_
   refine qA (qC (v := .slice _ _ _) rfl) ?_
   refine qA (wK rfl rfl) ?_
   refine qA (qN (v := .bool _) rfl) ?_
   refine qU rfl (fun hg => ?_) (fun hg => ?_)
   ·skip
    have hne : fewJ m hs j ≠ [] := fun e => by rw [e] at hg; simp at hg
    have hF := few_at M hj2 J2 hne
    refine qE ?_
    refine qB rfl ?_
    refine qA (qC (v := .slice _ _ _) rfl) ?_
    refine qA (qD (v := .slice _ _ _) rfl) ?_
    refine qZ ?_
    refine qP (vs := [_]) Tryz.results46 ⟨qM rfl rfl, trivial⟩ fun V => ?_
    rw [hF]
    exact ⟨(zT (zT (zT (zT (zT E_j G0) E4) E5) E_i) (qX V)), SlX.acc (i := 1) K2 (by omega) K4 V rfl (K3.ext TL.mono (qX V))⟩
   ·skip
    have hne : fewJ m hs j = [] := by
     rcases hc : fewJ m hs j with _ | ⟨x, l⟩
     ·rfl
     ·rw [hc] at hg; simp at hg <;> omega
    refine qR ?_
    refine qB rfl ?_
    refine qA (qC (v := .int .i64 _) rfl) ?_
    refine qA (qS rfl (by omega)) ?_
    refine qA (qD (v := .int .i64 _) rfl) ?_
    refine ⟨(j + 1, ⟨p9, A9, (fewJ m hs j).length, c9⟩), ⟨rfl, trivial⟩, rfl, rfl, (zT (zT (zT (zT E_j G0) E4) E5) E_i), fun h3 E3 => ⟨by omega, fun i hi => (Nat.lt_succ_iff_lt_or_eq.1 hi).elim (J2 i) (fun e => by subst e; exact hne)⟩, by first | omega | (dsimp only; omega), ?_⟩
    repeat (first | exact qW _ _ _ | refine wD (by decide) ?_ | refine qV rfl ?_ | refine wE rfl ?_)
 ·skip
  have hj3 : j = 3 := by have := of_decide_eq_false hj; omega
  subst hj3
  have hF := few_none M J2
  refine wV ?_
  refine qE ?_
  refine qB rfl ?_
  refine qA (qD (v := .slice _ _ _) rfl) ?_
  refine qZ ?_
  refine qP (vs := [_]) Tryz.results46 ⟨qM rfl rfl, trivial⟩ fun V => ?_
  rw [hF]
  exact ⟨(zT E_j (qX V)), SlX.nil _ _ _ _ _⟩
set_option maxHeartbeats 4000000 in
theorem FewestG_ok (m : MachP) (S : Sml m) (hs : List HeardP) (HN : HLen hs) (AB AQ AL AW UA : Option Addr) (cB cQ cL cW cU : Nat) (hcQ : m.pins.length ≤ cQ) (hcL : m.links.length ≤ cL) (us : List (List Value)) (h : AH) (RM : MachR h AB AQ AL AW m) (R : Row h 3 id UA us) (EL : Els h TU hs us) :
  FnT Tryz.prog 17 #[machV AB AQ AL AW cB cQ cL cW m, .slice UA hs.length cU] h (fun v h' => ∃ L, v = .tuple #[L, .int .i64 (fewE m hs)] ∧ SlR h' 1 intC (fewA m hs) L) := by
 refine wM Tryz.func17 rfl Tryz.ntmps17 rfl ?_
 refine qE ?_
 refine qB rfl ?_
 refine zG (v := .agg #[.int .i64 _, .int .i64 _, .int .i64 _, .int .i64 _, .int .i64 _, .slice _ _ _, .slice _ _ _, .slice _ _ _, .slice _ _ _]) (cs := [_, _, _, _, _, _, _, _, _]) rfl rfl fun b2 hb2 => ?_
 refine qL [_] rfl ?_
 refine qA (qD (v := .slice _ _ _) rfl) ?_
 refine qA (qD (v := .int .i64 _) rfl) ?_
 refine qE ?_
 refine qE ?_
 refine qB rfl ?_
 refine qY 0 (vs := [.int .i64 _, .int .i64 _, .int .i64 _, .int .i64 _, .int .i64 _, .slice _ _ _, .slice _ _ _, .slice _ _ _, .slice _ _ _]) rfl rfl rfl rfl rfl ?_
 refine qA (qC (v := .slice _ _ _) rfl) ?_
 refine wJ (caps := []) (vs := [.agg #[.int .i64 _, .int .i64 _, .int .i64 _, .int .i64 _, .int .i64 _, .slice _ _ _, .slice _ _ _, .slice _ _ _, .slice _ _ _], .slice _ _ _]) rfl rfl rfl (checkHeardG_ok m S hs HN AB AQ AL AW UA cB cQ cL cW cU us h (RM.ext (Ext.refl _)) (R.ext (Ext.refl _)) (EL.ext TU.mono (Ext.refl _))) ?_
 rintro _ h3 E13 rfl
 refine qA (qD (v := .int .i64 _) rfl) ?_
 refine qE ?_
 refine qB rfl ?_
 refine qA (qC (v := .int .i64 _) rfl) ?_
 refine qA (qN (v := .bool _) rfl) ?_
 refine qU rfl (fun hc => ?_) (fun hc => ?_)
 ·skip
  have hc' : checkHeardM m hs ≠ 0 := by simpa using hc
  have eE : fewE m hs = checkHeardM m hs := by rw [fewE, if_pos hc']
  refine qE ?_
  refine qB rfl ?_
  refine qA (qC (v := .int .i64 _) rfl) ?_
  refine qA (qD (v := .slice _ _ _) rfl) ?_
  refine qA (qD (v := .int .i64 _) rfl) ?_
  refine qZ ?_
  refine qP (vs := [_, _]) Tryz.results17 ⟨qM rfl rfl, qM rfl rfl, trivial⟩ fun V => ?_
  exact ⟨(zT E13 (qX V)), _, by rw [eE]; rfl, none, 0, by rw [fewA, eE, if_neg hc']; rfl, by rw [fewA, eE, if_neg hc']; exact row_nil _ _⟩
 ·skip
  have hc' : checkHeardM m hs = 0 := by simpa using hc
  obtain ⟨M, hl5, X⟩ := checkHeard_zero hc'
  have f24 := faults24 M
  have fle := fewest_le M hs
  have L2 := ExplainingR_ok m M hs hl5 X AB AQ AL AW UA cB cQ cL cW cU hcQ hcL us
  have eE : fewE m hs = if (fewestL m hs).length = 0 then 11 else 0 := by rw [fewE, if_neg (by simp [hc'])]
  obtain ⟨F, hF⟩ : ∃ F, F = fewestL m hs := ⟨_, rfl⟩
  rw [← hF] at L2 eE fle
  refine qR ?_
  refine qE ?_
  refine qB rfl ?_
  refine qY 0 (vs := [.int .i64 _, .int .i64 _, .int .i64 _, .int .i64 _, .int .i64 _, .slice _ _ _, .slice _ _ _, .slice _ _ _, .slice _ _ _]) rfl rfl rfl rfl rfl ?_
  refine qA (qC (v := .slice _ _ _) rfl) ?_
  refine wJ (caps := []) (vs := [.agg _, .slice _ _ _]) rfl rfl rfl (L2 h3 (RM.ext E13) (R.ext E13) (EL.ext TU.mono E13)) ?_
  rintro _ h4 E4 S4
  obtain ⟨gs, A4, c4, rfl, R4, EL4⟩ := SlX.els S4
  refine qA (qD (v := .slice _ _ _) rfl) ?_
  refine qE ?_
  refine qE ?_
  refine qB rfl ?_
  refine qA (qC (v := .slice _ _ _) rfl) ?_
  refine qA (wK rfl rfl) ?_
  refine qA (qN (v := .bool _) rfl) ?_
  refine qU rfl (fun hs0 => ?_) (fun hs0 => ?_)
  ·skip
   have h0' : F.length = 0 := by simp at hs0; simp [hs0]
   have eE0 : fewE m hs = 11 := by rw [eE, if_pos h0']
   refine qE ?_
   refine qB rfl ?_
   refine qA (qD (v := .slice _ _ _) rfl) ?_
   refine qA (qD (v := .int .i64 _) rfl) ?_
   refine qZ ?_
   refine qP (vs := [_, _]) Tryz.results17 ⟨qM rfl rfl, qM rfl rfl, trivial⟩ fun V => ?_
   exact ⟨(zT (zT E13 E4) (qX V)), _, by rw [eE0]; rfl, none, 0, by rw [fewA, eE0, if_neg (by decide)]; rfl, by rw [fewA, eE0, if_neg (by decide)]; exact row_nil _ _⟩
  ·skip
   have hne' : 0 < F.length := by
    rcases Nat.eq_zero_or_pos F.length with h | h
    ·rw [h] at hs0; simp at hs0
    ·exact h
   have eE0 : fewE m hs = 0 := by rw [eE, if_neg (by omega)]
   obtain ⟨hic, y0, e0, XA, cX, rfl, RX⟩ := EL4.at hne'
   obtain ⟨g, off, hA, hcc⟩ := R4.at (by omega) hic
   have hcc : Cells h4 g (off + 0 * 1) [.slice XA F[0].length cX] := by rw [← e0]; exact hcc
   have eA : fewA m hs = F[0] := by
    rw [fewA, if_pos eE0, ← hF]
    cases F with
    | nil => exact absurd hne' (by simp)
    | cons x F => rfl
   refine qR ?_
   refine qE ?_
   refine qB rfl ?_
   refine qA (qC (v := .slice _ _ _) rfl) ?_
   refine qA (wG (m := 1) rfl hA rfl rfl rfl (by omega) (by omega)) ?_
   refine wS (v := .slice _ _ _) rfl rfl ((hcc) 0 _ rfl) ?_
   refine qA (qD (v := .slice _ _ _) rfl) ?_
   refine qA (qD (v := .int .i64 _) rfl) ?_
   refine qZ ?_
   refine qP (vs := [_, _]) Tryz.results17 ⟨qM rfl rfl, qM rfl rfl, trivial⟩ fun V => ?_
   rw [eE0, eA]
   exact ⟨(zT (zT E13 E4) (qX V)), _, rfl, XA, cX, rfl, RX.ext (qX V)⟩
set_option maxHeartbeats 4000000 in
theorem BlameG_ok (m : MachP) (S : Sml m) (hs : List HeardP) (HN : HLen hs) (AB AQ AL AW UA : Option Addr) (cB cQ cL cW cU : Nat) (hcQ : m.pins.length ≤ cQ) (hcL : m.links.length ≤ cL) (us : List (List Value)) (h : AH) (RM : MachR h AB AQ AL AW m) (R : Row h 3 id UA us) (EL : Els h TU hs us) :
  FnT Tryz.prog 19 #[machV AB AQ AL AW cB cQ cL cW m, .slice UA hs.length cU] h (fun v h' => ∃ L, v = .tuple #[L, .int .i64 (fewE m hs)] ∧ SlR h' 1 intC (blamA m hs) L) := by
 refine wM Tryz.func19 rfl Tryz.ntmps19 rfl ?_
 refine qE ?_
 refine qB rfl ?_
 refine zG (v := .agg #[.int .i64 _, .int .i64 _, .int .i64 _, .int .i64 _, .int .i64 _, .slice _ _ _, .slice _ _ _, .slice _ _ _, .slice _ _ _]) (cs := [_, _, _, _, _, _, _, _, _]) rfl rfl fun b2 hb2 => ?_
 refine qL [_] rfl ?_
 refine qA (qD (v := .slice _ _ _) rfl) ?_
 refine qA (qD (v := .int .i64 _) rfl) ?_
 refine qE ?_
 refine qE ?_
 refine qB rfl ?_
 refine qY 0 (vs := [.int .i64 _, .int .i64 _, .int .i64 _, .int .i64 _, .int .i64 _, .slice _ _ _, .slice _ _ _, .slice _ _ _, .slice _ _ _]) rfl rfl rfl rfl rfl ?_
 refine qA (qC (v := .slice _ _ _) rfl) ?_
 refine wJ (caps := []) (vs := [.agg #[.int .i64 _, .int .i64 _, .int .i64 _, .int .i64 _, .int .i64 _, .slice _ _ _, .slice _ _ _, .slice _ _ _, .slice _ _ _], .slice _ _ _]) rfl rfl rfl (checkHeardG_ok m S hs HN AB AQ AL AW UA cB cQ cL cW cU us h (RM.ext (Ext.refl _)) (R.ext (Ext.refl _)) (EL.ext TU.mono (Ext.refl _))) ?_
 rintro _ h3 E13 rfl
 refine qA (qD (v := .int .i64 _) rfl) ?_
 refine qE ?_
 refine qB rfl ?_
 refine qA (qC (v := .int .i64 _) rfl) ?_
 refine qA (qN (v := .bool _) rfl) ?_
 refine qU rfl (fun hc => ?_) (fun hc => ?_)
 ·skip
  have hc' : checkHeardM m hs ≠ 0 := by simpa using hc
  have eE : fewE m hs = checkHeardM m hs := by rw [fewE, if_pos hc']
  refine qE ?_
  refine qB rfl ?_
  refine qA (qC (v := .int .i64 _) rfl) ?_
  refine qA (qD (v := .slice _ _ _) rfl) ?_
  refine qA (qD (v := .int .i64 _) rfl) ?_
  refine qZ ?_
  refine qP (vs := [_, _]) Tryz.results19 ⟨qM rfl rfl, qM rfl rfl, trivial⟩ fun V => ?_
  exact ⟨(zT E13 (qX V)), _, by rw [eE]; rfl, none, 0, by rw [blamA, eE, if_neg hc']; rfl, by rw [blamA, eE, if_neg hc']; exact row_nil _ _⟩
 ·skip
  have hc' : checkHeardM m hs = 0 := by simpa using hc
  obtain ⟨M, hl5, X⟩ := checkHeard_zero hc'
  have f24 := faults24 M
  have fle := fewest_le M hs
  have L2 := ExplainingR_ok m M hs hl5 X AB AQ AL AW UA cB cQ cL cW cU hcQ hcL us
  have eE : fewE m hs = if (fewestL m hs).length = 0 then 11 else 0 := by rw [fewE, if_neg (by simp [hc'])]
  obtain ⟨F, hF⟩ : ∃ F, F = fewestL m hs := ⟨_, rfl⟩
  rw [← hF] at L2 eE fle
  refine qR ?_
  refine qE ?_
  refine qB rfl ?_
  refine qY 0 (vs := [.int .i64 _, .int .i64 _, .int .i64 _, .int .i64 _, .int .i64 _, .slice _ _ _, .slice _ _ _, .slice _ _ _, .slice _ _ _]) rfl rfl rfl rfl rfl ?_
  refine qA (qC (v := .slice _ _ _) rfl) ?_
  refine wJ (caps := []) (vs := [.agg _, .slice _ _ _]) rfl rfl rfl (L2 h3 (RM.ext E13) (R.ext E13) (EL.ext TU.mono E13)) ?_
  rintro _ h4 E4 S4
  obtain ⟨gs, A4, c4, rfl, R4, EL4⟩ := SlX.els S4
  refine qA (qD (v := .slice _ _ _) rfl) ?_
  refine qE ?_
  refine qE ?_
  refine qB rfl ?_
  refine qA (qC (v := .slice _ _ _) rfl) ?_
  refine qA (wK rfl rfl) ?_
  refine qA (qN (v := .bool _) rfl) ?_
  refine qU rfl (fun hs0 => ?_) (fun hs0 => ?_)
  ·skip
   have h0' : F.length = 0 := by simp at hs0; simp [hs0]
   have eE0 : fewE m hs = 11 := by rw [eE, if_pos h0']
   refine qE ?_
   refine qB rfl ?_
   refine qA (qD (v := .slice _ _ _) rfl) ?_
   refine qA (qD (v := .int .i64 _) rfl) ?_
   refine qZ ?_
   refine qP (vs := [_, _]) Tryz.results19 ⟨qM rfl rfl, qM rfl rfl, trivial⟩ fun V => ?_
   exact ⟨(zT (zT E13 E4) (qX V)), _, by rw [eE0]; rfl, none, 0, by rw [blamA, eE0, if_neg (by decide)]; rfl, by rw [blamA, eE0, if_neg (by decide)]; exact row_nil _ _⟩
  ·skip
   have hne' : 0 < F.length := by
    rcases Nat.eq_zero_or_pos F.length with h | h
    ·rw [h] at hs0; simp at hs0
    ·exact h
   have eE0 : fewE m hs = 0 := by rw [eE, if_neg (by omega)]
   have hsz : ∀ s ∈ F, s.length < 2 ^ 40 := fun s h => by have := fle.2 s h; omega
   refine qR ?_
   refine goes_more ?_
   refine qT [_, _] rfl ?_
   refine qE ?_
   refine qB rfl ?_
   refine qA (qD (v := .slice _ _ _) rfl) ?_
   refine qE ?_
   refine qE ?_
   refine qB rfl ?_
   refine qA (qD (v := .int .i64 _) rfl) ?_
   refine qQ ?_
   refine zH [8, 9, 10, 11, 24, 25, 26, 27, 28, 29, 30, 31, 32, 33, 34, 35, 36, 37, 38, 39, 40, 41, 42, 43, 44, 45, 46, 47, 48, 49, 50, 51, 52, 53, 54, 55, 56, 57, 58, 59, 60] 2 (α := Nat × Acc) (fun ⟨k, a⟩ => [(9, .int .i64 k), (8, .slice a.A a.n a.c)]) (fun ⟨k, a⟩ L => L.set 1 (a.p)) (fun ⟨k, a⟩ h_k => k ≤ (faultsM m).length ∧ AccR 3 1 ((blameK F k).flatMap intC) a) (fun ⟨k, a⟩ => (faultsM m).length - k) ((0, acc0)) ⟨rfl, rfl, trivial⟩ (rfl) (⟨Nat.zero_le _, accR0⟩) ?_
   rintro ⟨k, a⟩ T1 h_k E_k J_k
   refine qT [_, _] rfl ?_
   obtain ⟨K1, K2⟩ := J_k
   refine qE ?_
   refine qE ?_
   refine qB rfl ?_
   refine qA (qC (v := .int .i64 _) rfl) ?_
   refine qY 0 (vs := [.int .i64 _, .int .i64 _, .int .i64 _, .int .i64 _, .int .i64 _, .slice _ _ _, .slice _ _ _, .slice _ _ _, .slice _ _ _]) rfl rfl rfl rfl rfl ?_
   refine wJ (caps := []) (vs := [.agg #[.int .i64 _, .int .i64 _, .int .i64 _, .int .i64 _, .int .i64 _, .slice _ _ _, .slice _ _ _, .slice _ _ _, .slice _ _ _]]) rfl rfl rfl (faultsR_ok m M AB AQ AL AW cB cQ cL cW h_k) ?_
   rintro _ h5 E5 ⟨FA, cF, rfl, RF⟩
   refine qA (wK rfl rfl) ?_
   refine qA (qN (v := .bool _) rfl) ?_
   refine qU rfl (fun hk => ?_) (fun hk => ?_)
   ·skip
    have hkl : k < (faultsM m).length := ltI hk
    have hbl : (blameK F k).length = k := by simp [blameK]
    have hile := inN_le F (k : Int) F.length
    refine qR ?_
    refine qE ?_
    refine qQ ?_
    refine qE ?_
    refine qB rfl ?_
    refine qA (qD (v := .int .i64 _) rfl) ?_
    refine qE ?_
    refine qE ?_
    refine qB rfl ?_
    refine qA (qD (v := .int .i64 _) rfl) ?_
    refine qQ ?_
    refine zP [10, 11, 31, 32, 33, 34, 35, 36, 37, 38, 39, 40, 41, 42, 43, 44] 2 (α := Nat) (fun q => [(11, .int .i64 q), (10, .int .i64 (inN F (k : Int) q : Nat))]) (fun q => _) (fun q h_q => q ≤ F.length) (fun q => F.length - q) (0) ⟨rfl, rfl, trivial⟩ (rfl) (Nat.zero_le _) ?_
    rintro q T2 h_q E_q J_q
    refine qT [_, _] rfl ?_
    refine qE ?_
    refine qE ?_
    refine qB rfl ?_
    refine qA (qC (v := .int .i64 _) rfl) ?_
    refine qA (qC (v := .slice _ _ _) rfl) ?_
    refine qA (wK rfl rfl) ?_
    refine qA (qN (v := .bool _) rfl) ?_
    refine qU rfl (fun hq => ?_) (fun hq => ?_)
    ·skip
     have hql : q < F.length := ltI hq
     have hst := inN_succ (f := (k : Int)) hql
     have hle := inN_le F (k : Int) q
     obtain ⟨hic, y0, e0, XA, cX, rfl, RX⟩ := (EL4.ext TL.mono (zT (zT E_k E5) E_q)).at hql
     obtain ⟨g, off, hA, hcc⟩ := (R4.ext (zT (zT E_k E5) E_q)).at (by omega) hic
     have hcc : Cells h_q g (off + q * 1) [.slice XA F[q].length cX] := by rw [← e0]; exact hcc
     refine qR ?_
     refine qE ?_
     refine qQ ?_
     refine qE ?_
     refine qB rfl ?_
     refine qA (qC (v := .slice _ _ _) rfl) ?_
     refine qA (qC (v := .int .i64 _) rfl) ?_
     refine qA (wG (m := 1) rfl hA rfl rfl rfl (by omega) (by omega)) ?_
     refine wS (v := .slice _ _ _) rfl rfl ((hcc) 0 _ rfl) ?_
     refine qA (qC (v := .int .i64 _) rfl) ?_
     refine wJ (caps := []) (vs := [.slice _ _ _, .int .i64 _]) rfl rfl rfl (hasR_ok F[q] k XA cX h_q RX (hsz _ (List.getElem_mem hql))) ?_
     rintro _ h6 E6 rfl
     refine qU rfl (fun hi => ?_) (fun hi => ?_)
     ·skip
      have hi' : (k : Int) ∈ F[q] := by simpa using hi
      rw [if_pos hi'] at hst
      refine qB rfl ?_
      refine qA (qC (v := .int .i64 _) rfl) ?_
      refine qA (qS rfl (by omega)) ?_
      refine qA (qD (v := .int .i64 _) rfl) ?_
      refine qB rfl ?_
      refine qA (qC (v := .int .i64 _) rfl) ?_
      refine qA (qS rfl (by omega)) ?_
      refine qA (qD (v := .int .i64 _) rfl) ?_
      refine ⟨q + 1, ⟨rfl, intE (by rw [hst]; omega), trivial⟩, rfl, rfl, (zT E_q E6), fun h3 E3 => hql, by first | omega | (dsimp only; omega), ?_⟩
      repeat (first | exact qW _ _ _ | refine wD (by decide) ?_ | refine qV rfl ?_ | refine wE rfl ?_)
     ·skip
      have hi' : ¬ (k : Int) ∈ F[q] := by simpa using hi
      rw [if_neg hi'] at hst
      refine qR ?_
      refine qB rfl ?_
      refine qA (qC (v := .int .i64 _) rfl) ?_
      refine qA (qS rfl (by omega)) ?_
      refine qA (qD (v := .int .i64 _) rfl) ?_
      refine ⟨q + 1, ⟨rfl, intE (by rw [hst]; omega), trivial⟩, rfl, rfl, (zT E_q E6), fun h3 E3 => hql, by first | omega | (dsimp only; omega), ?_⟩
      repeat (first | exact qW _ _ _ | refine wD (by decide) ?_ | refine qV rfl ?_ | refine wE rfl ?_)
    ·skip
     have hqe : q = F.length := by have := geI hq; omega
     subst hqe
     have hbs := blameK_succ F k
     refine wV ?_
     refine qE ?_
     refine qB rfl ?_
     refine qA (qC (v := .int .i64 _) rfl) ?_
     refine qQ ?_
     refine qE ?_
     refine qB rfl ?_
     refine qA (qC (v := .slice _ _ _) rfl) ?_
     refine qA (wK rfl rfl) ?_
     refine qA (qN (v := .bool _) rfl) ?_
     refine qA (qD (v := .bool _) rfl) ?_
     refine qU rfl (fun h1 => ?_) (fun h1 => ?_)
     ·skip
      have h1' : inN F (k : Int) F.length = F.length := by simp at h1; omega
      rw [valB, if_pos h1'] at hbs
      refine qB rfl ?_
      refine qA (qC (v := .slice _ _ _) rfl) ?_
      refine wA (zc := [_]) (vs := [(0, .int .i64 _)]) (cs := [_]) rfl rfl rfl rfl rfl rfl rfl fun b54 hb54 => ?_
      refine qL [_, _, _] rfl ?_
      refine wZ 1 K2 rfl rfl rfl (fun V => rdP V (i := 2) rfl) rfl rfl rfl rfl rfl rfl rfl rfl rfl (by omega) rfl (by rw [wN (m := 1) (fun _ _ => rfl), hbl]; simp; omega) fun a2 h3a E3a ha2 => ?_
      refine qL [_, _, _] rfl ?_
      refine qA (qD (v := .slice _ _ _) rfl) ?_
      refine qB rfl ?_
      refine qA (qC (v := .int .i64 _) rfl) ?_
      refine qA (qS rfl (by omega)) ?_
      refine qA (qD (v := .int .i64 _) rfl) ?_
      refine ⟨(k + 1, a2), ⟨rfl, rfl, trivial⟩, rfl, rfl, (zT (zT (zT E_k E5) E_q) E3a), fun h3 E3 => ⟨hkl, by rw [hbs, List.flatMap_append]; exact ha2⟩, by first | omega | (dsimp only; omega), ?_⟩
      repeat (first | exact qW _ _ _ | refine wD (by decide) ?_ | refine qV rfl ?_ | refine wE rfl ?_)
     ·skip
      have h1' : ¬ inN F (k : Int) F.length = F.length := by simp at h1; omega
      rw [valB, if_neg h1'] at hbs
      refine qE ?_
      refine qB rfl ?_
      refine qA (qN (v := .bool _) rfl) ?_
      refine qA (qD (v := .bool _) rfl) ?_
      refine qU rfl (fun h2 => ?_) (fun h2 => ?_)
      ·skip
       have h2' : inN F (k : Int) F.length = 0 := by simp at h2; omega
       rw [if_pos h2'] at hbs
       refine qB rfl ?_
       refine qA (qC (v := .slice _ _ _) rfl) ?_
       refine wA (zc := [_]) (vs := [(0, .int .i64 _)]) (cs := [_]) rfl rfl rfl rfl rfl rfl rfl fun b59 hb59 => ?_
       refine qL [_, _, _] rfl ?_
       refine wZ 1 K2 rfl rfl rfl (fun V => rdP V (i := 2) rfl) rfl rfl rfl rfl rfl rfl rfl rfl rfl (by omega) rfl (by rw [wN (m := 1) (fun _ _ => rfl), hbl]; simp; omega) fun a2 h4a E4a ha2 => ?_
       refine qL [_, _, _] rfl ?_
       refine qA (qD (v := .slice _ _ _) rfl) ?_
       refine qB rfl ?_
       refine qA (qC (v := .int .i64 _) rfl) ?_
       refine qA (qS rfl (by omega)) ?_
       refine qA (qD (v := .int .i64 _) rfl) ?_
       refine ⟨(k + 1, a2), ⟨rfl, rfl, trivial⟩, rfl, rfl, (zT (zT (zT E_k E5) E_q) E4a), fun h3 E3 => ⟨hkl, by rw [hbs, List.flatMap_append]; exact ha2⟩, by first | omega | (dsimp only; omega), ?_⟩
       repeat (first | exact qW _ _ _ | refine wD (by decide) ?_ | refine qV rfl ?_ | refine wE rfl ?_)
      ·skip
       have h2' : ¬ inN F (k : Int) F.length = 0 := by simp at h2; omega
       rw [if_neg h2'] at hbs
       refine qB rfl ?_
       refine qA (qC (v := .slice _ _ _) rfl) ?_
       refine wA (zc := [_]) (vs := [(0, .int .i64 _)]) (cs := [_]) rfl rfl rfl rfl rfl rfl rfl fun b47 hb47 => ?_
       refine qL [_, _, _] rfl ?_
       refine wZ 1 K2 rfl rfl rfl (fun V => rdP V (i := 2) rfl) rfl rfl rfl rfl rfl rfl rfl rfl rfl (by omega) rfl (by rw [wN (m := 1) (fun _ _ => rfl), hbl]; simp; omega) fun a2 h5a E5a ha2 => ?_
       refine qL [_, _, _] rfl ?_
       refine qA (qD (v := .slice _ _ _) rfl) ?_
       refine qB rfl ?_
       refine qA (qC (v := .int .i64 _) rfl) ?_
       refine qA (qS rfl (by omega)) ?_
       refine qA (qD (v := .int .i64 _) rfl) ?_
       refine ⟨(k + 1, a2), ⟨rfl, rfl, trivial⟩, rfl, rfl, (zT (zT (zT E_k E5) E_q) E5a), fun h3 E3 => ⟨hkl, by rw [hbs, List.flatMap_append]; exact ha2⟩, by first | omega | (dsimp only; omega), ?_⟩
       repeat (first | exact qW _ _ _ | refine wD (by decide) ?_ | refine qV rfl ?_ | refine wE rfl ?_)
   ·skip
    have hke : k = (faultsM m).length := by have := geI hk; omega
    subst hke
    refine wV ?_
    refine qE ?_
    refine qB rfl ?_
    refine qA (qC (v := .slice _ _ _) rfl) ?_
    refine qA (qD (v := .slice _ _ _) rfl) ?_
    refine qA (qD (v := .int .i64 _) rfl) ?_
    refine qZ ?_
    refine qP (vs := [_, _]) Tryz.results19 ⟨qM rfl rfl, qM rfl rfl, trivial⟩ fun V => ?_
    rw [eE0, blamA, eE0, if_pos rfl, ← hF]
    exact ⟨(zT (zT (zT (zT E13 E4) E_k) E5) (qX V)), _, rfl, AccP.row (i := 1) K2 (by omega) (fun _ _ => rfl) V rfl⟩
set_option maxHeartbeats 4000000 in
theorem TestG_ok (m : MachP) (S : Sml m) (hs : List HeardP) (HN : HLen hs) (AB AQ AL AW UA : Option Addr) (cB cQ cL cW cU : Nat) (hcQ : m.pins.length ≤ cQ) (hcL : m.links.length ≤ cL) (us : List (List Value)) (h : AH) (RM : MachR h AB AQ AL AW m) (R : Row h 3 id UA us) (EL : Els h TU hs us) :
  FnT Tryz.prog 21 #[machV AB AQ AL AW cB cQ cL cW m, .slice UA hs.length cU] h (fun v h' => ∃ H, v = .tuple #[H, .int .i64 (testN m hs), .int .i64 (testE m hs)] ∧ HandV h' (testA m hs) H) := by
 refine wM Tryz.func21 rfl Tryz.ntmps21 rfl ?_
 refine qE ?_
 refine qB rfl ?_
 refine zG (v := .agg #[.int .i64 _, .int .i64 _, .int .i64 _, .int .i64 _, .int .i64 _, .slice _ _ _, .slice _ _ _, .slice _ _ _, .slice _ _ _]) (cs := [_, _, _, _, _, _, _, _, _]) rfl rfl fun b2 hb2 => ?_
 refine qL [_] rfl ?_
 refine zF (cs := [_, _]) rfl rfl fun b4 hb4 => ?_
 refine qL [_, _] rfl ?_
 refine qA (qD (v := .int .i64 _) rfl) ?_
 refine qA (qD (v := .int .i64 _) rfl) ?_
 refine qE ?_
 refine qB rfl ?_
 refine qY 0 (vs := [.int .i64 _, .int .i64 _, .int .i64 _, .int .i64 _, .int .i64 _, .slice _ _ _, .slice _ _ _, .slice _ _ _, .slice _ _ _]) rfl rfl rfl rfl rfl ?_
 refine qA (qC (v := .slice _ _ _) rfl) ?_
 refine wJ (caps := []) (vs := [.agg _, .slice _ _ _]) rfl rfl rfl (SuspectsG_ok m S hs HN AB AQ AL AW UA cB cQ cL cW cU hcQ hcL us h (RM.ext (Ext.refl _)) (R.ext (Ext.refl _)) (EL.ext TU.mono (Ext.refl _))) ?_
 rintro _ h3 E13 ⟨_, rfl, A3, c3, rfl, R3⟩
 refine qA (qC (v := .tuple #[.slice _ _ _, .int .i64 _]) rfl) ?_
 refine qA (qN (v := .slice _ _ _) rfl) ?_
 refine qA (qN (v := .int .i64 _) rfl) ?_
 refine qA (qD (v := .slice _ _ _) rfl) ?_
 refine qA (qD (v := .int .i64 _) rfl) ?_
 refine qE ?_
 refine qE ?_
 refine qB rfl ?_
 refine qA (qC (v := .int .i64 _) rfl) ?_
 refine qA (qN (v := .bool _) rfl) ?_
 refine qU rfl (fun hc => ?_) (fun hc => ?_)
 ·skip
  have hc' : suspE m hs ≠ 0 := by simpa using hc
  have e : testE m hs = suspE m hs := by
   unfold suspE at hc' ⊢
   unfold testE
   by_cases a1 : checkHeardM m hs ≠ 0
   ·rw [if_pos a1, if_pos a1]
   ·rw [if_neg a1] at hc' ⊢
    rw [if_neg a1]
    by_cases a2 : (suspectsM m hs).length = 0
    ·rw [if_pos a2, if_pos a2]
    ·rw [if_neg a2] at hc'; exact absurd rfl hc'
  refine qE ?_
  refine qB rfl ?_
  refine qA (pv_build (zc := [_, _]) (vs := []) (cs := [_, _]) rfl rfl rfl rfl rfl rfl) ?_
  refine qA (qC (v := .int .i64 _) rfl) ?_
  refine wI 1 (v := .agg #[.slice _ _ _, .slice _ _ _]) (vs := [_, _]) (c' := [_, _]) rfl rfl rfl rfl rfl rfl rfl rfl rfl ?_
  refine qL [_, _] rfl ?_
  refine qA (qD (v := .int .i64 _) rfl) ?_
  refine qA (qD (v := .int .i64 _) rfl) ?_
  refine qZ ?_
  refine qP (vs := [_, _, _]) Tryz.results21 ⟨resV_agg 1 rfl rfl rfl rfl rfl (vs := [.slice _ _ _, .slice _ _ _]) rfl, qM rfl rfl, qM rfl rfl, trivial⟩ fun V => ?_
  refine ⟨(zT E13 (qX V)), .agg #[.slice none 0 0, .slice none 0 0], by rw [testN, e, if_neg hc']; rfl, ?_⟩
  rw [testA, e, if_neg hc']
  exact hand_nil _
 ·skip
  have hc' : suspE m hs = 0 := by simpa using hc
  have hz1 : checkHeardM m hs = 0 := by
   by_cases a1 : checkHeardM m hs = 0
   ·exact a1
   ·rw [suspE, if_pos a1] at hc'; exact absurd hc' a1
  obtain ⟨M, hl5, X⟩ := checkHeard_zero hz1
  have hz2 : ¬ (suspectsM m hs).length = 0 := fun e => by rw [suspE, if_neg (by simp [hz1]), if_pos e] at hc'; exact absurd hc' (by decide)
  have eL : suspL m hs = suspectsM m hs := by rw [suspL, if_pos hc']
  rw [eL] at R3 ⊢
  have f24 := faults24 M
  have bl := M.bl
  have rg := M.regs
  obtain ⟨su, hsu⟩ : ∃ su, su = suspectsM m hs := ⟨_, rfl⟩
  have hnb : ∀ x ∈ su, -1 ≤ x ∧ x < (faultsM m).length := fun x hx => by rw [hsu] at hx; have := susp_bd m hs _ (Nat.le_refl _) x hx; omega
  have hnl : su.length ≤ (faultsM m).length + 1 := by rw [hsu]; exact suspN_len m hs _
  obtain ⟨ms, hms⟩ : ∃ ms, ms = machL m hs := ⟨_, rfl⟩
  have hml : ms.length = su.length := by rw [hms, machL, List.length_map, hsu]
  have eE : testE m hs = if (testM m hs).2 = su.length then 11 else 0 := by rw [testE, if_neg (by simp [hz1]), if_neg hz2, ← hms, hml]
  have eM : testM m hs = bestN m ms (handsM m).length := by rw [testM, hms]
  have hw : ∀ a, worstN (sndL m ms a) ms.length = leftN (aloneL m su a) su.length := fun a => by rw [hms, hsu]; exact worst_alone m hs a
  have hhl : (handsM m).length ≤ 448 * 448 := by
   unfold handsM
   rw [pairs_len]
   exact Nat.mul_le_mul (setsM_len (by omega)) (setsM_len (by omega))
  rw [← hsu] at R3 hz2 ⊢
  rw [eM] at eE
  refine qR ?_
  refine qE ?_
  refine qB rfl ?_
  refine zF (cs := [_, _]) rfl rfl fun b9 hb9 => ?_
  refine qL [_, _, _] rfl ?_
  refine qE ?_
  refine qB rfl ?_
  refine qA (qC (v := .slice _ _ _) rfl) ?_
  refine qA (wK rfl rfl) ?_
  refine qA (qD (v := .int .i64 _) rfl) ?_
  refine qE ?_
  refine qB rfl ?_
  refine qY 0 (vs := [.int .i64 _, .int .i64 _, .int .i64 _, .int .i64 _, .int .i64 _, .slice _ _ _, .slice _ _ _, .slice _ _ _, .slice _ _ _]) rfl rfl rfl rfl rfl ?_
  refine wJ (caps := []) (vs := [.agg #[.int .i64 _, .int .i64 _, .int .i64 _, .int .i64 _, .int .i64 _, .slice _ _ _, .slice _ _ _, .slice _ _ _, .slice _ _ _]]) rfl rfl rfl (HandsR_ok m (by omega) (by omega) AB AQ AL AW cB cQ cL cW h3 (RM.ext E13)) ?_
  rintro _ h8 E8 S8
  obtain ⟨gs, A8, c8, rfl, R8, EL8⟩ := SlX.els S8
  refine qA (qD (v := .slice _ _ _) rfl) ?_
  refine qE ?_
  refine qE ?_
  refine qB rfl ?_
  refine qA (qD (v := .int .i64 _) rfl) ?_
  refine qQ ?_
  refine zH [10, 12, 13, 28, 29, 30, 31, 32, 33, 34, 35, 36, 37, 38, 39, 40, 41, 42, 43, 44, 45, 46, 47, 48] 3 (α := Nat × (HandP × Nat) × Option Addr × Option Addr × Nat × Nat) (fun ⟨i, q, HA, OA, cH, cO⟩ => [(12, .int .i64 i), (10, .int .i64 (q.2 : Nat))]) (fun ⟨i, q, HA, OA, cH, cO⟩ L => L.set 2 (some (b9, .cells #[.slice HA q.1.buttons.length cH, .slice OA q.1.on.length cO] 29 (0, 0)))) (fun ⟨i, q, HA, OA, cH, cO⟩ h_i => i ≤ (handsM m).length ∧ HandR h_i HA OA q.1 ∧ q = bestN m ms i) (fun ⟨i, q, HA, OA, cH, cO⟩ => (handsM m).length - i) ((0, (⟨[], []⟩, su.length), none, none, 0, 0)) ⟨rfl, rfl, trivial⟩ (rfl) (⟨Nat.zero_le _, ⟨row_nil _ _, row_nil _ _⟩, by rw [← hml]; rfl⟩) ?_
  rintro ⟨i, q, HA, OA, cH, cO⟩ T1 h_i E_i J_i
  refine qT [_, _, _] rfl ?_
  obtain ⟨K1, KH, Kq⟩ := J_i
  refine qE ?_
  refine qE ?_
  refine qB rfl ?_
  refine qA (qC (v := .int .i64 _) rfl) ?_
  refine qA (qC (v := .slice _ _ _) rfl) ?_
  refine qA (wK rfl rfl) ?_
  refine qA (qN (v := .bool _) rfl) ?_
  refine qU rfl (fun hi => ?_) (fun hi => ?_)
  ·skip
   have hil : i < (handsM m).length := ltI hi
   have hge := List.getElem?_eq_getElem hil
   have HX := hands_hok ⟨rg.1, rg.2⟩ hge
   have hb1 := bestN_succ hge (ms := ms)
   rw [bestS, hw, ← Kq] at hb1
   obtain ⟨hic, B0, O0, e0, ⟨HB, cHB, rfl, r1⟩, ⟨OB, cOB, rfl, r2⟩⟩ := (EL8.ext TH.mono E_i).at hil
   obtain ⟨g, off, hA, hcc⟩ := (R8.ext E_i).at (by omega) hic
   have hcc : Cells h_i g (off + i * 2) [.slice HB (handsM m)[i].buttons.length cHB, .slice OB (handsM m)[i].on.length cOB] := by rw [← e0]; exact hcc
   generalize (handsM m)[i] = a at *
   refine qR ?_
   refine qE ?_
   refine qQ ?_
   refine qE ?_
   refine xp_dw [] rfl rfl rfl ?_
   refine wH (i := 0) rfl (by decide +kernel) ?_
   refine qY 0 (vs := [.int .i64 _, .int .i64 _, .int .i64 _, .int .i64 _, .int .i64 _, .slice _ _ _, .slice _ _ _, .slice _ _ _, .slice _ _ _]) rfl rfl rfl rfl rfl ?_
   refine qI (i := 1) rfl (by decide +kernel) (qC (v := .slice _ _ _) rfl) ?_
   refine qI (i := 2) rfl (by decide +kernel) (qC (v := .slice _ _ _) rfl) ?_
   refine qI (i := 3) rfl (by decide +kernel) (qC (v := .int .i64 _) rfl) ?_
   refine qI (i := 4) rfl (by decide +kernel) (wG (m := 2) rfl hA rfl rfl rfl (by omega) (by omega)) ?_
   refine wH (i := 5) rfl (by decide +kernel) ?_
   refine zK rfl rfl rfl rfl hcc ?_
   refine zA (i := 6) rfl (by decide +kernel) (by decide +kernel) ?_
   refine wJ (caps := []) (vs := [.agg _, .slice _ _ _, .agg _]) rfl rfl rfl (LeftR_ok m M su (by omega) hnb a HX AB AQ AL AW A3 HB OB cB cQ cL cW c3 cHB cOB hcQ hcL h_i (RM.ext (zT (zT E13 E8) E_i)) (R3.ext (zT E8 E_i)) ⟨r1, r2⟩) ?_
   rintro _ h9 E9 rfl
   refine qI (i := 7) rfl (by decide +kernel) (qD (v := .int .i64 _) rfl) ?_
   refine zN rfl ?_
   refine qE ?_
   refine qB rfl ?_
   refine qA (qC (v := .int .i64 _) rfl) ?_
   refine qA (qC (v := .int .i64 _) rfl) ?_
   refine qA (qN (v := .bool _) rfl) ?_
   refine qU rfl (fun hlt => ?_) (fun hlt => ?_)
   ·skip
    have hlt' : leftN (aloneL m su a) su.length < q.2 := by have := of_decide_eq_true hlt; omega
    rw [if_pos hlt'] at hb1
    refine qB rfl ?_
    refine qA (qC (v := .slice _ _ _) rfl) ?_
    refine qA (qC (v := .int .i64 _) rfl) ?_
    refine qA (wG (m := 2) rfl hA rfl rfl rfl (by omega) (by omega)) ?_
    refine zK rfl rfl rfl rfl (hcc.ext E9) ?_
    refine qA (qC (v := .int .i64 _) rfl) ?_
    refine wI 2 (v := .agg #[.slice _ _ _, .slice _ _ _]) (vs := [_, _]) (c' := [_, _]) rfl rfl rfl rfl rfl rfl rfl rfl rfl ?_
    refine qL [_, _, _] rfl ?_
    refine qA (qD (v := .int .i64 _) rfl) ?_
    refine qB rfl ?_
    refine qA (qC (v := .int .i64 _) rfl) ?_
    refine qA (qS rfl (by omega)) ?_
    refine qA (qD (v := .int .i64 _) rfl) ?_
    refine ⟨(i + 1, (a, leftN (aloneL m su a) su.length), HB, OB, cHB, cOB), ⟨rfl, rfl, trivial⟩, rfl, rfl, (zT E_i E9), fun h3 E3 => ⟨hil, ⟨(r1.ext E9).ext E3, (r2.ext E9).ext E3⟩, hb1.symm⟩, by first | omega | (dsimp only; omega), ?_⟩
    repeat (first | exact qW _ _ _ | refine wD (by decide) ?_ | refine qV rfl ?_ | refine wE rfl ?_)
   ·skip
    have hlt' : ¬ leftN (aloneL m su a) su.length < q.2 := by have := of_decide_eq_false hlt; omega
    rw [if_neg hlt'] at hb1
    refine qR ?_
    refine qB rfl ?_
    refine qA (qC (v := .int .i64 _) rfl) ?_
    refine qA (qS rfl (by omega)) ?_
    refine qA (qD (v := .int .i64 _) rfl) ?_
    refine ⟨(i + 1, q, HA, OA, cH, cO), ⟨rfl, rfl, trivial⟩, rfl, rfl, (zT E_i E9), fun h3 E3 => ⟨hil, (KH.ext E9).ext E3, hb1.symm⟩, by first | omega | (dsimp only; omega), ?_⟩
    repeat (first | exact qW _ _ _ | refine wD (by decide) ?_ | refine qV rfl ?_ | refine wE rfl ?_)
  ·skip
   have hie : i = (handsM m).length := by have := geI hi; omega
   subst hie
   rw [← Kq] at eE eM
   refine wV ?_
   refine qE ?_
   refine qE ?_
   refine qB rfl ?_
   refine qA (qC (v := .int .i64 _) rfl) ?_
   refine qA (qC (v := .slice _ _ _) rfl) ?_
   refine qA (wK rfl rfl) ?_
   refine qA (qN (v := .bool _) rfl) ?_
   refine qU rfl (fun hq => ?_) (fun hq => ?_)
   ·skip
    have hq' : q.2 = su.length := by simp at hq; omega
    rw [if_pos hq'] at eE
    refine qE ?_
    refine qB rfl ?_
    refine qA (pv_build (zc := [_, _]) (vs := []) (cs := [_, _]) rfl rfl rfl rfl rfl rfl) ?_
    refine wI 1 (v := .agg #[.slice _ _ _, .slice _ _ _]) (vs := [_, _]) (c' := [_, _]) rfl rfl rfl rfl rfl rfl rfl rfl rfl ?_
    refine qL [_, _, _] rfl ?_
    refine qA (qD (v := .int .i64 _) rfl) ?_
    refine qA (qD (v := .int .i64 _) rfl) ?_
    refine qZ ?_
    refine qP (vs := [_, _, _]) Tryz.results21 ⟨resV_agg 1 rfl rfl rfl rfl rfl (vs := [.slice _ _ _, .slice _ _ _]) rfl, qM rfl rfl, qM rfl rfl, trivial⟩ fun V => ?_
    refine ⟨(zT (zT (zT E13 E8) E_i) (qX V)), .agg #[.slice none 0 0, .slice none 0 0], by rw [testN, eE, if_neg (by decide)]; rfl, ?_⟩
    rw [testA, eE, if_neg (by decide)]
    exact hand_nil _
   ·skip
    have hq' : ¬ q.2 = su.length := by simp at hq; omega
    rw [if_neg hq'] at eE
    refine qR ?_
    refine qE ?_
    refine qB rfl ?_
    refine qY 2 (vs := [.slice _ _ _, .slice _ _ _]) rfl rfl rfl rfl rfl ?_
    refine qA (qC (v := .int .i64 _) rfl) ?_
    refine wI 1 (v := .agg #[.slice _ _ _, .slice _ _ _]) (vs := [_, _]) (c' := [_, _]) rfl rfl rfl rfl rfl rfl rfl rfl rfl ?_
    refine qL [_, _, _] rfl ?_
    refine qA (qD (v := .int .i64 _) rfl) ?_
    refine qA (qD (v := .int .i64 _) rfl) ?_
    refine qZ ?_
    refine qP (vs := [_, _, _]) Tryz.results21 ⟨resV_agg 1 rfl rfl rfl rfl rfl (vs := [.slice _ _ _, .slice _ _ _]) rfl, qM rfl rfl, qM rfl rfl, trivial⟩ fun V => ?_
    refine ⟨(zT (zT (zT E13 E8) E_i) (qX V)), handV HA OA cH cO q.1, by rw [testN, eE, if_pos rfl, eM]; rfl, ?_⟩
    rw [testA, eE, if_pos rfl, eM]
    exact (KH.ext (qX V)).close
end
end Go.Proofs.YthphpbdmbmiaiaaGreat
namespace Go.Proofs.YthphpbdmbmiaiaaGreat
open Go Go.HL Go.Proofs Go.Wx Go.Rd
section
variable [Lvl]
set_option maxRecDepth 100000
end
end Go.Proofs.YthphpbdmbmiaiaaGreat
namespace Go.Proofs.YthphpbdmbmiaiaaGreat
open Go Go.HL Go.Proofs Go.Wx Go.Rd
section
variable [Lvl]
set_option maxRecDepth 100000
end
end Go.Proofs.YthphpbdmbmiaiaaGreat
namespace Go.HL
open Go Go.Wx Go.RowKit Go.ChangeShapes Go.WideShapes
variable [Lvl]
section
variable {H : Type} {enc : TypeId × Value → H} {P : Program} {w : World} {base : Nat} {spare : Nat → Bool} {held : Bool}
theorem row_sliceC {α : Type} (en : α → List Value) {t e : TypeId} {m fuel : Nat} {cs : List Value} {x : DataW H × List MemPlace} (ht : P.underlying t = some (.slice e)) (hc : P.cellsOf e = m) (hm : 0 < m) (he : ∀ a, (en a).length = m)
  (leaf : ∀ n cs x, DataW.trod enc P w base spare held n e cs = some x → ∃ a, cs = en a) (h : DataW.trod enc P w base spare held fuel t cs = some x) :
  ∃ (A : Option Addr) (len cap : Nat) (l : List α), cs = [.slice A len cap] ∧ l.length = len ∧ Row (absH w.heap) m en A l ∧ len ≤ cap ∧ cap ≤ maxLen := by
 rcases Go.Deep.open_slice ht h with ⟨rfl, _⟩ | ⟨a, len, cap, mm, n, D, Pl, rfl, hb, hl, hmx, hmm, _, hel⟩
 ·exact ⟨none, 0, 0, [], rfl, rfl, ⟨fun _ h => (by cases h), Rd.nil _ _⟩, Nat.le_refl _, Nat.zero_le _⟩
 ·have hlm : len ≤ mm := by rw [hmm]; split <;> omega
  have key : ∀ i : _root_.Fin len, ∃ v : α, w.cells? base (a.add (i.val * m)) m = some (en v) := by
   intro i
   obtain ⟨cs', h1, h2⟩ := hel i.val (by have := i.isLt; omega)
   obtain ⟨v, rfl⟩ := leaf _ _ _ h2
   rw [hc] at h1
   exact ⟨v, h1⟩
  let l := List.ofFn fun i : _root_.Fin len => Classical.choose (key i)
  have hll : l.length = len := by simp [l]
  have hat : ∀ (i : Nat) (hi : i < l.length), w.cells? base (a.add (i * m)) m = some (en l[i]) := by
   intro i hi
   have := Classical.choose_spec (key ⟨i, by omega⟩)
   simpa [l] using this
  refine ⟨some a, len, cap, l, rfl, hll, ⟨fun x _ => he x, fun hne => ?_⟩, hl, hmx⟩
  have hpos : 0 < l.length := by
   rcases Nat.eq_zero_or_pos l.length with h0 | h0
   ·rw [List.eq_nil_of_length_eq_zero h0] at hne; simp at hne
   ·exact h0
  obtain ⟨g, off, sp⟩ := a
  have h0 := hat 0 hpos
  obtain ⟨_, _, hcell⟩ := World.cells?_some h0
  have h00 := hcell 0 hm
  rw [Go.Deep.add_add, Nat.zero_mul, Nat.add_zero, List.getElem?_eq_getElem (by rw [he]; exact hm)] at h00
  have hsp : sp = none := by
   cases sp with
   | none => rfl
   | some s =>
    exfalso
    have : w.cell? ((⟨g, off, some s⟩ : Addr).add 0) = none := by
     simp only [Addr.add]
     rw [cell_abs]
     unfold cellA
     split <;> simp
    rw [this] at h00
    cases h00
  subst hsp
  refine ⟨g, off, rfl, fun j u hu => ?_⟩
  have hj : j < l.length * m := by
   have := (List.getElem?_eq_some_iff.1 hu).1
   rwa [wN (fun x _ => he x)] at this
  have hi : j / m < l.length := Nat.div_lt_of_lt_mul (by rw [Nat.mul_comm]; exact hj)
  have hr : j % m < m := Nat.mod_lt _ hm
  have hjm : j / m * m + j % m = j := by rw [Nat.mul_comm]; exact Nat.div_add_mod j m
  obtain ⟨_, _, hcl⟩ := World.cells?_some (hat (j / m) hi)
  have h1 := hcl (j % m) hr
  have h2 : (en l[j / m])[j % m]? = some ((en l[j / m])[j % m]'(by rw [he]; exact hr)) := List.getElem?_eq_getElem _
  have h3 := flat_get en m l (fun x _ => he x) (j / m) _ (List.getElem?_eq_getElem hi) (j % m) _ h2
  rw [hjm, hu] at h3
  rw [h2, ← h3, Go.Deep.add_add, hjm, cell_abs, add_none] at h1
  exact h1
end
end Go.HL
namespace Go.Rd
structure EvP where
 kind : Int
 which : Int
end Go.Rd
namespace Go.Proofs.YthphpbdmbmiaiaaGreat
open Go Go.HL Go.Wx Go.Rd Go.RowKit Go.ChangeShapes Go.WideShapes
variable [Lvl]
set_option maxRecDepth 100000
theorem cellsT_int : Tryz.prog.cellsOf 3 = 1 := by kernel_rfl
theorem cellsT_ints : Tryz.prog.cellsOf 22 = 1 := by kernel_rfl
theorem cellsT_pins : Tryz.prog.cellsOf 23 = 1 := by kernel_rfl
theorem cellsT_links : Tryz.prog.cellsOf 24 = 1 := by kernel_rfl
theorem cellsT_pin : Tryz.prog.cellsOf 71 = 3 := by kernel_rfl
theorem cellsT_link : Tryz.prog.cellsOf 73 = 4 := by kernel_rfl
theorem cellsT_mach : Tryz.prog.cellsOf 26 = 9 := by kernel_rfl
theorem cellsT_hand : Tryz.prog.cellsOf 29 = 2 := by kernel_rfl
section
variable {H : Type} {enc : TypeId × Value → H} {w : World} {base : Nat} {spare : Nat → Bool} {held : Bool}
theorem ud_at {α : Type} {xs : List α} {n i : Nat} (h : xs.length = n) (hi : i < n) : ∃ y, xs[i]? = some y := ⟨_, List.getElem?_eq_getElem (by omega)⟩
theorem leaf_int {n : Nat} {cs : List Value} {x : DataW H × List MemPlace} (h : DataW.trod enc Tryz.prog w base spare held n 3 cs = some x) : ∃ z : Int, cs = [.int .i64 z] := by
 obtain ⟨z, e, _⟩ := DataW.trod_int Tryz.underlying3 h
 exact ⟨z, e⟩
theorem leaf_pin {n : Nat} {cs : List Value} {x : DataW H × List MemPlace} (h : DataW.trod enc Tryz.prog w base spare held n 71 cs = some x) : ∃ p : PinP, cs = pinC p := by
 obtain ⟨xs, m, _, _, hl, hx, hf⟩ := DataW.trod_struct Tryz.underlying71 h
 rw [cellsT_pin] at hl
 obtain ⟨y0, e0⟩ := ud_at (i := 0) hx (by decide)
 obtain ⟨a0, h0⟩ := leaf_int ((show DataW.trod enc Tryz.prog w base spare held m 3 ((cs.drop 0).take (Tryz.prog.cellsOf 3)) = xs[0]? from hf 0 _ rfl).trans e0)
 obtain ⟨y1, e1⟩ := ud_at (i := 1) hx (by decide)
 obtain ⟨a1, h1⟩ := leaf_int ((show DataW.trod enc Tryz.prog w base spare held m 3 ((cs.drop 1).take (Tryz.prog.cellsOf 3)) = xs[1]? from hf 1 _ rfl).trans e1)
 obtain ⟨y2, e2⟩ := ud_at (i := 2) hx (by decide)
 obtain ⟨a2, h2⟩ := leaf_int ((show DataW.trod enc Tryz.prog w base spare held m 3 ((cs.drop 2).take (Tryz.prog.cellsOf 3)) = xs[2]? from hf 2 _ rfl).trans e2)
 rw [cellsT_int] at h0 h1 h2
 match cs, hl with
 | [u0, u1, u2], _ =>
  simp at h0 h1 h2
  exact ⟨⟨a0, a1, a2⟩, by rw [h0, h1, h2]; rfl⟩
theorem leaf_link {n : Nat} {cs : List Value} {x : DataW H × List MemPlace} (h : DataW.trod enc Tryz.prog w base spare held n 73 cs = some x) : ∃ p : LinkP, cs = linkC p := by
 obtain ⟨xs, m, _, _, hl, hx, hf⟩ := DataW.trod_struct Tryz.underlying73 h
 rw [cellsT_link] at hl
 obtain ⟨y0, e0⟩ := ud_at (i := 0) hx (by decide)
 obtain ⟨a0, h0⟩ := leaf_int ((show DataW.trod enc Tryz.prog w base spare held m 3 ((cs.drop 0).take (Tryz.prog.cellsOf 3)) = xs[0]? from hf 0 _ rfl).trans e0)
 obtain ⟨y1, e1⟩ := ud_at (i := 1) hx (by decide)
 obtain ⟨a1, h1⟩ := leaf_int ((show DataW.trod enc Tryz.prog w base spare held m 3 ((cs.drop 1).take (Tryz.prog.cellsOf 3)) = xs[1]? from hf 1 _ rfl).trans e1)
 obtain ⟨y2, e2⟩ := ud_at (i := 2) hx (by decide)
 obtain ⟨a2, h2⟩ := leaf_int ((show DataW.trod enc Tryz.prog w base spare held m 3 ((cs.drop 2).take (Tryz.prog.cellsOf 3)) = xs[2]? from hf 2 _ rfl).trans e2)
 obtain ⟨y3, e3⟩ := ud_at (i := 3) hx (by decide)
 obtain ⟨a3, h3⟩ := leaf_int ((show DataW.trod enc Tryz.prog w base spare held m 3 ((cs.drop 3).take (Tryz.prog.cellsOf 3)) = xs[3]? from hf 3 _ rfl).trans e3)
 rw [cellsT_int] at h0 h1 h2 h3
 match cs, hl with
 | [u0, u1, u2, u3], _ =>
  simp at h0 h1 h2 h3
  exact ⟨⟨a0, a1, a2, a3⟩, by rw [h0, h1, h2, h3]; rfl⟩
theorem leaf_hand {n : Nat} {cs : List Value} {x : DataW H × List MemPlace} (h : DataW.trod enc Tryz.prog w base spare held n 29 cs = some x) : ∃ (a : HandP) (HA OA : Option Addr) (cH cO : Nat), cs = [.slice HA a.buttons.length cH, .slice OA a.on.length cO] ∧ HandR (absH w.heap) HA OA a := by
 obtain ⟨xs, m, _, _, hl, hx, hf⟩ := DataW.trod_struct Tryz.underlying29 h
 rw [cellsT_hand] at hl
 obtain ⟨y0, e0⟩ := ud_at (i := 0) hx (by decide)
 obtain ⟨y1, e1⟩ := ud_at (i := 1) hx (by decide)
 obtain ⟨A0, n0, c0, l0, h0, k0, R0, hc0, _⟩ := row_sliceC intC Tryz.underlying22 cellsT_int (by omega) (fun _ => rfl) (fun _ _ _ => leaf_int) ((show DataW.trod enc Tryz.prog w base spare held m 22 ((cs.drop 0).take (Tryz.prog.cellsOf 22)) = xs[0]? from hf 0 _ rfl).trans e0)
 obtain ⟨A1, n1, c1, l1, h1, k1, R1, hc1, _⟩ := row_sliceC intC Tryz.underlying22 cellsT_int (by omega) (fun _ => rfl) (fun _ _ _ => leaf_int) ((show DataW.trod enc Tryz.prog w base spare held m 22 ((cs.drop 1).take (Tryz.prog.cellsOf 22)) = xs[1]? from hf 1 _ rfl).trans e1)
 rw [cellsT_ints] at h0 h1
 match cs, hl with
 | [u0, u1], _ =>
  simp at h0 h1
  exact ⟨⟨l0, l1⟩, A0, A1, c0, c1, by rw [h0, h1, ← k0, ← k1], ⟨R0, R1⟩⟩
theorem mach_in {r : Reach} {b0 : Nat} {v : Value} {d : DataW H} {p : List MemPlace} (hv : Value.okWide Tryz.prog w r b0 26 v) (h : DataW.Trod enc Tryz.prog w base spare held 26 v d p) :
  ∃ (m : MachP) (AB AQ AL AW : Option Addr) (cB cQ cL cW : Nat), v = machV AB AQ AL AW cB cQ cL cW m ∧ MachR (absH w.heap) AB AQ AL AW m ∧ m.pins.length ≤ cQ ∧ m.links.length ≤ cL := by
 obtain ⟨⟨cs⟩, rfl, hs⟩ := okWide_struct Tryz.underlying26 hv
 obtain ⟨fuel, hf0⟩ := h
 have hcs : (Value.agg ⟨cs⟩).cells.toList = cs := rfl
 rw [hcs] at hf0
 obtain ⟨xs, m, _, _, hl, hx, hf⟩ := DataW.trod_struct Tryz.underlying26 hf0
 rw [cellsT_mach] at hl
 obtain ⟨y0, e0⟩ := ud_at (i := 0) hx (by decide)
 obtain ⟨y1, e1⟩ := ud_at (i := 1) hx (by decide)
 obtain ⟨y2, e2⟩ := ud_at (i := 2) hx (by decide)
 obtain ⟨y3, e3⟩ := ud_at (i := 3) hx (by decide)
 obtain ⟨y4, e4⟩ := ud_at (i := 4) hx (by decide)
 obtain ⟨y5, e5⟩ := ud_at (i := 5) hx (by decide)
 obtain ⟨y6, e6⟩ := ud_at (i := 6) hx (by decide)
 obtain ⟨y7, e7⟩ := ud_at (i := 7) hx (by decide)
 obtain ⟨y8, e8⟩ := ud_at (i := 8) hx (by decide)
 obtain ⟨a0, h0⟩ := leaf_int ((show DataW.trod enc Tryz.prog w base spare held m 3 ((cs.drop 0).take (Tryz.prog.cellsOf 3)) = xs[0]? from hf 0 _ rfl).trans e0)
 obtain ⟨a1, h1⟩ := leaf_int ((show DataW.trod enc Tryz.prog w base spare held m 3 ((cs.drop 1).take (Tryz.prog.cellsOf 3)) = xs[1]? from hf 1 _ rfl).trans e1)
 obtain ⟨a2, h2⟩ := leaf_int ((show DataW.trod enc Tryz.prog w base spare held m 3 ((cs.drop 2).take (Tryz.prog.cellsOf 3)) = xs[2]? from hf 2 _ rfl).trans e2)
 obtain ⟨a3, h3⟩ := leaf_int ((show DataW.trod enc Tryz.prog w base spare held m 3 ((cs.drop 3).take (Tryz.prog.cellsOf 3)) = xs[3]? from hf 3 _ rfl).trans e3)
 obtain ⟨a4, h4⟩ := leaf_int ((show DataW.trod enc Tryz.prog w base spare held m 3 ((cs.drop 4).take (Tryz.prog.cellsOf 3)) = xs[4]? from hf 4 _ rfl).trans e4)
 obtain ⟨A5, n5, c5, l5, h5, k5, R5, hc5, _⟩ := row_sliceC intC Tryz.underlying22 cellsT_int (by omega) (fun _ => rfl) (fun _ _ _ => leaf_int) ((show DataW.trod enc Tryz.prog w base spare held m 22 ((cs.drop 5).take (Tryz.prog.cellsOf 22)) = xs[5]? from hf 5 _ rfl).trans e5)
 obtain ⟨A6, n6, c6, l6, h6, k6, R6, hc6, _⟩ := row_sliceC pinC Tryz.underlying23 cellsT_pin (by omega) (fun _ => rfl) (fun _ _ _ => leaf_pin) ((show DataW.trod enc Tryz.prog w base spare held m 23 ((cs.drop 6).take (Tryz.prog.cellsOf 23)) = xs[6]? from hf 6 _ rfl).trans e6)
 obtain ⟨A7, n7, c7, l7, h7, k7, R7, hc7, _⟩ := row_sliceC linkC Tryz.underlying24 cellsT_link (by omega) (fun _ => rfl) (fun _ _ _ => leaf_link) ((show DataW.trod enc Tryz.prog w base spare held m 24 ((cs.drop 7).take (Tryz.prog.cellsOf 24)) = xs[7]? from hf 7 _ rfl).trans e7)
 obtain ⟨A8, n8, c8, l8, h8, k8, R8, hc8, _⟩ := row_sliceC intC Tryz.underlying22 cellsT_int (by omega) (fun _ => rfl) (fun _ _ _ => leaf_int) ((show DataW.trod enc Tryz.prog w base spare held m 22 ((cs.drop 8).take (Tryz.prog.cellsOf 22)) = xs[8]? from hf 8 _ rfl).trans e8)
 rw [cellsT_int] at h0 h1 h2 h3 h4
 rw [cellsT_ints] at h5 h8
 rw [cellsT_pins] at h6
 rw [cellsT_links] at h7
 match cs, hl with
 | [u0, u1, u2, u3, u4, u5, u6, u7, u8], _ =>
  simp at h0 h1 h2 h3 h4 h5 h6 h7 h8
  refine ⟨⟨a0, a1, a2, a3, a4, l5, l6, l7, l8⟩, A5, A6, A7, A8, c5, c6, c7, c8, ?_, ⟨R5, R6, R7, R8⟩, by show l6.length ≤ c6; omega, by show l7.length ≤ c7; omega⟩
  rw [h0, h1, h2, h3, h4, h5, h6, h7, h8, ← k5, ← k6, ← k7, ← k8]
theorem ints_in {r : Reach} {b0 : Nat} {v : Value} {d : DataW H} {p : List MemPlace} (hv : Value.okWide Tryz.prog w r b0 22 v) (h : DataW.Trod enc Tryz.prog w base spare held 22 v d p) :
  ∃ (l : List Int) (A : Option Addr) (c : Nat), v = .slice A l.length c ∧ Row (absH w.heap) 1 intC A l ∧ l.length ≤ maxLen := by
 obtain ⟨a0, len0, cap0, rfl⟩ := okWide_slice Tryz.underlying22 hv
 obtain ⟨fuel, hf⟩ := h
 obtain ⟨A, n, c, l, e, k, R, h1, h2⟩ := row_sliceC intC Tryz.underlying22 cellsT_int (by omega) (fun _ => rfl) (fun _ _ _ => leaf_int) hf
 have hcs : (Value.slice a0 len0 cap0).cells.toList = [.slice a0 len0 cap0] := rfl
 rw [hcs] at e
 simp at e
 obtain ⟨rfl, rfl, rfl⟩ := e
 subst k
 exact ⟨l, _, _, rfl, R, Nat.le_trans h1 h2⟩
end
end Go.Proofs.YthphpbdmbmiaiaaGreat
namespace Go.HL
open Go
variable [Lvl]
theorem wrL_mid : ∀ (c pre j : List Value), c.length ≤ j.length → wrL (pre ++ j) pre.length c = pre ++ c ++ j.drop c.length
 | [], pre, j, _ => by simp [wrL]
 | v :: c, pre, [], h => absurd h (by simp)
 | v :: c, pre, x :: j, h => by
  have e : (pre ++ x :: j).set pre.length v = (pre ++ [v]) ++ j := by simp
  have ih := wrL_mid c (pre ++ [v]) j (by simpa using h)
  rw [List.length_append, List.length_singleton] at ih
  rw [wrL, e, ih]
  simp
def rowP : Nat → List (List Value) → List (Nat × Value)
 | _, [] => []
 | k, c :: els => (k, .agg c.toArray) :: rowP (k + 1) els
theorem fill_row {m : Nat} : ∀ (els : List (List Value)) (k : Nat) (pre j : List Value), (∀ c ∈ els, c.length = m) → pre.length = k * m → j.length = els.length * m → fillL (fun i => some (i * m, m)) (pre ++ j) (rowP k els) = some (pre ++ els.flatMap id)
 | [], k, pre, j, _, _, hj => by
  have : j = [] := List.length_eq_zero_iff.1 (by simpa using hj)
  subst this
  rfl
 | c :: els, k, pre, j, hm, hp, hj => by
  have hc := hm c (List.mem_cons_self ..)
  have hj' : j.length = els.length * m + m := by rw [hj, List.length_cons, Nat.add_mul, Nat.one_mul]
  have e1 : ((Value.agg c.toArray).cells.size == m && Nat.ble (k * m + m) (pre ++ j).length) = true := by
   rw [Bool.and_eq_true]
   refine ⟨by show (c.toArray.size == m) = true; simp [hc], Nat.ble_eq_true_of_le ?_⟩
   rw [List.length_append]
   omega
  have e2 : wrL (pre ++ j) (k * m) (Value.agg c.toArray).cells.toList = (pre ++ c) ++ j.drop m := by
   rw [← hp, show (Value.agg c.toArray).cells.toList = c from rfl, wrL_mid c pre j (by omega), hc]
  rw [rowP, fillL]
  simp only
  rw [if_pos e1, e2]
  rw [fill_row els (k + 1) (pre ++ c) (j.drop m) (fun x hx => hm x (List.mem_cons_of_mem _ hx)) (by rw [List.length_append, hp, hc, Nat.add_mul, Nat.one_mul]) (by rw [List.length_drop, hj']; omega)]
  simp
variable {P : Program} {n : Nat} {ops : Array Oper} {os : List Oper} {K : Sl → Pv → AH → Prop} {E : Value → Sl → Pv → AH → Prop} {S : Sl} {L : Pv} {h : AH} {d : Option Tmp} {ty : TypeId} {ps : String} {af : Array Edge}
theorem op_buildSliceR (els : List (List Value)) {t e : TypeId} {m len : Nat} {z : Value} {zc : List Value} {pts : List (Nat × Operand)} (ht : pev P (underlying t) = some (.slice e)) (hs : pev P (sizeOf e) = some m)
  (hz : pev P (zeroValue e) = some z) (hzc : z.cells = zc.toArray) (hl : Nat.ble (len * m) 16777216 = true) (hn : els.length = len) (hm : els.all (fun c => c.length == m) = true) (hv : pts.map (fun q => (q.1, ev n S q.2)) = rowP 0 els)
  (k : ∀ b, wl h L b = none → wpL P n ops os K E (put S d (.slice (some ⟨b, 0, none⟩) len len)) (L ++ [some (b, .cells (els.flatMap id).toArray e (0, 0))]) h) : wpL P n ops (⟨d, .buildSlice t len pts.toArray, ty, ps, af, none⟩ :: os) K E S L h := by
 refine wA ht hs hz hzc hl hv ?_ k
 have := fill_row (m := m) els 0 [] ((List.range (len * m)).map fun i => zc[i % zc.length]!) (fun c hc => by have := List.all_eq_true.1 hm c hc; simpa using this) (by simp) (by simp [hn])
 simpa using this
end Go.HL
namespace Go.Proofs.YthphpbdmbmiaiaaGreat
open Go Go.HL Go.Proofs Go.Wx Go.Rd
section
variable [Lvl]
set_option maxRecDepth 100000
theorem all4 {α : Type} {p : α → Prop} {a b c d : α} (ha : p a) (hb : p b) (hc : p c) (hd : p d) : ∀ x ∈ [a, b, c, d], p x := fun x hx => by
 simp only [List.mem_cons, List.not_mem_nil, or_false] at hx
 rcases hx with rfl | rfl | rfl | rfl <;> assumption
theorem els4 {α : Type} {h : AH} {T : AH → α → List Value → Prop} {a b c d : α} {ca cb cc cd : List Value} (ha : T h a ca) (hb : T h b cb) (hc : T h c cc) (hd : T h d cd) : Els h T [a, b, c, d] [ca, cb, cc, cd] :=
 (((Els.nil h T).snoc ha).snoc hb).snoc hc |>.snoc hd
theorem sameHandsS_ok (a : HandP) (HA OA HB OB : Option Addr) (cA oA cB oB : Nat) (h : AH) (Ra : HandR h HA OA a) (Rb : HandR h HB OB a) (h1 : a.buttons.length < 2 ^ 40) (h2 : a.on.length < 2 ^ 40) :
  FnT Tryz.prog 23 #[handV HA OA cA oA a, handV HB OB cB oB a] h (fun v _ => v = .bool true) :=
 (sameHands_ok a a HA OA HB OB cA oA cB oB h Ra Rb h1 h2).mono (fun v _ e => ⟨e.1, e.2.trans (boolE (by simp))⟩) fun _ _ e => e
theorem AccR.room {e : TypeId} {m : Nat} {cs : List Value} {a : Acc} (r : AccR e m cs a) (hm : 0 < m) : a.n ≤ a.c := by
 rcases r with ⟨_, _, A, ev⟩ | ⟨b, len, cap, junk, hl, ev, _, hc⟩
 ·injection ev with _ h1 h2; omega
 ·injection ev with _ h1 h2
  rw [List.length_append, hl] at hc
  have : len * m ≤ cap * m := by omega
  have := Nat.le_of_mul_le_mul_right this hm
  omega
theorem Made.sml {s p l : Int} {m : MachP} (M : Made s p l m) : Sml m := by
 have h1 := M.ok.bl
 have h2 := M.ok.pl
 have h3 := M.ok.ll
 have h4 := M.ok.wl
 have h5 := M.ok.levers
 exact ⟨by omega, by omega, by omega, by omega⟩
theorem HOK.sml {m : MachP} {a : HandP} (M : MOK m) (H : HOK m a) : SmlH a := by
 have F := fit_of M H
 have h1 := F.hl
 have h2 := F.ol
 exact ⟨by omega, by omega⟩
end
end Go.Proofs.YthphpbdmbmiaiaaGreat
namespace Go.Proofs.YthphpbdmbmiaiaaGreat
open Go Go.HL Go.Proofs Go.Wx Go.Rd
section
variable [Lvl]
set_option maxRecDepth 100000
structure SmlX (x : HeardP) : Prop where
 h : SmlH x.hand
 s : x.sounds.length < 2 ^ 20
def SmlU (hs : List HeardP) : Prop := hs.length ≤ 20 ∧ ∀ x ∈ hs, SmlX x
theorem SmlU.hlen {hs : List HeardP} (S : SmlU hs) : HLen hs := ⟨by have := S.1; omega, fun x hx => by
 have h := S.2 x hx
 have h1 := h.h.b
 have h2 := h.h.o
 have h3 := h.s
 omega⟩
theorem SmlU.cp {hs : List HeardP} (S : SmlU hs) : hs.length < 2 ^ 10 ∧ ∀ x ∈ hs, x.hand.buttons.length < 2 ^ 20 ∧ x.hand.on.length < 2 ^ 20 ∧ x.sounds.length < 2 ^ 20 := ⟨by have := S.1; omega, fun x hx => ⟨(S.2 x hx).h.b, (S.2 x hx).h.o, (S.2 x hx).s⟩⟩
set_option maxHeartbeats 2000000 in
theorem CopyHeard_ok (hs : List HeardP) (hl : hs.length < 2 ^ 10) (hx : ∀ x ∈ hs, x.hand.buttons.length < 2 ^ 20 ∧ x.hand.on.length < 2 ^ 20 ∧ x.sounds.length < 2 ^ 20) (A : Option Addr) (c : Nat) (cs0 : List (List Value)) (h : AH) (R : Row h 3 id A cs0) (EL : Els h TU hs cs0) :
  FnT Tryz.prog 11 #[.slice A hs.length c] h (fun v h' => SlX h' 3 TU hs v) := by
 refine wM Tryz.func11 rfl Tryz.ntmps11 rfl ?_
 refine qE ?_
 refine qB rfl ?_
 refine qA (qD (v := .slice _ _ _) rfl) ?_
 refine goes_more ?_
 refine qT [_] rfl ?_
 refine qE ?_
 refine qB rfl ?_
 refine qA (qD (v := .slice _ _ _) rfl) ?_
 refine qE ?_
 refine qE ?_
 refine qB rfl ?_
 refine qA (qD (v := .int .i64 _) rfl) ?_
 refine qQ ?_
 refine zH [3, 4, 5, 6, 7, 8, 9, 10, 11, 12, 13, 14, 15, 16, 17, 18, 19, 20, 21, 22, 23, 24, 25, 26] 1 (α := Nat × Acc × List (List Value)) (fun ⟨k, a, cs⟩ => [(4, .int .i64 k), (3, .slice a.A a.n a.c)]) (fun ⟨k, a, cs⟩ L => L.set 0 (a.p)) (fun ⟨k, a, cs⟩ h_k => k ≤ hs.length ∧ AccR 31 3 (cs.flatMap id) a ∧ Els h_k TU (hs.take k) cs ∧ ∀ x ∈ cs, x.length = 3) (fun ⟨k, a, cs⟩ => hs.length - k) ((0, acc0, [])) ⟨rfl, rfl, trivial⟩ (rfl) (⟨Nat.zero_le _, accR0, Els.nil _ _, fun _ hx => absurd hx List.not_mem_nil⟩) ?_
 rintro ⟨k, a, cs⟩ T1 h_k E_k J_k
 refine qT [_] rfl ?_
 obtain ⟨K1, K4, K5, K6⟩ := J_k
 refine qE ?_
 refine qE ?_
 refine qB rfl ?_
 refine qA (qC (v := .int .i64 _) rfl) ?_
 refine qA (qC (v := .slice _ _ _) rfl) ?_
 refine qA (wK rfl rfl) ?_
 refine qA (qN (v := .bool _) rfl) ?_
 refine qU rfl (fun hk => ?_) (fun hk => ?_)
 ·skip
  have hkl : k < hs.length := ltI hk
  obtain ⟨x1, x2, x3⟩ := hx _ (List.getElem_mem hkl)
  obtain ⟨hkc, B0, O0, U0, e0, ⟨HA, cH, rfl, r1⟩, ⟨OA, cO, rfl, r2⟩, ⟨XA, cX, rfl, r3⟩⟩ := (EL.ext TU.mono E_k).at hkl
  obtain ⟨g, off, hA, hc⟩ := (R.ext E_k).at (by omega) hkc
  have hc : Cells h_k g (off + k * 3) [.slice HA hs[k].hand.buttons.length cH, .slice OA hs[k].hand.on.length cO, .slice XA hs[k].sounds.length cX] := by rw [← e0]; exact hc
  have hcl : (cs.flatMap id).length = k * 3 := by rw [wN (enc := id) (m := 3) K6, K5.1]; simp; omega
  refine qR ?_
  refine qE ?_
  refine qQ ?_
  refine xp_dw [] rfl rfl rfl ?_
  refine qI (i := 0) rfl (by decide +kernel) (qC (v := .slice _ _ _) rfl) ?_
  refine qI (i := 1) rfl (by decide +kernel) (qC (v := .slice _ _ _) rfl) ?_
  refine qI (i := 2) rfl (by decide +kernel) (qC (v := .int .i64 _) rfl) ?_
  refine qI (i := 3) rfl (by decide +kernel) (wG (m := 3) rfl hA rfl rfl rfl (by omega) (by omega)) ?_
  refine qI (i := 4) rfl (by decide +kernel) (qF rfl rfl rfl rfl _ rfl) ?_
  refine wH (i := 5) rfl (by decide +kernel) ?_
  refine zK rfl rfl rfl rfl (hc.part 0 2) ?_
  refine qI (i := 7) rfl (by decide +kernel) (qC (v := .slice _ _ _) rfl) ?_
  refine qI (i := 8) rfl (by decide +kernel) (qC (v := .int .i64 _) rfl) ?_
  refine qI (i := 9) rfl (by decide +kernel) (wG (m := 3) rfl hA rfl rfl rfl (by omega) (by omega)) ?_
  refine qI (i := 10) rfl (by decide +kernel) (qF rfl rfl rfl rfl _ rfl) ?_
  refine wH (i := 11) rfl (by decide +kernel) ?_
  refine wS (v := .slice _ _ _) rfl rfl (hc 2 _ rfl) ?_
  refine dw_eff (i := 6) rfl (by decide +kernel) ?_
  refine wJ (caps := []) (vs := [.agg _]) rfl rfl rfl (CopyHand_ok hs[k].hand HA OA cH cO h_k ⟨r1.ext (Ext.refl _), r2.ext (Ext.refl _)⟩ x1 x2) ?_
  rintro _ h3 E13 VH
  refine ⟨ext_wlm E13 _, ?_⟩
  obtain ⟨HA3, OA3, cH3, cO3, rfl, RH3⟩ := HandV.open VH
  refine zA (i := 12) rfl (by decide +kernel) (by decide +kernel) ?_
  refine wJ (caps := []) (vs := [.slice _ _ _]) rfl rfl rfl (Ints_ok hs[k].sounds XA cX h3 (r3.ext E13) x3) ?_
  rintro _ h4 E4 ⟨A4, c4, rfl, R4⟩
  refine qI (i := 13) rfl (by decide +kernel) (pv_build (zc := [_, _, _]) (vs := [(0, .agg #[.slice _ _ _, .slice _ _ _]), (1, .slice _ _ _)]) (cs := [_, _, _]) rfl rfl rfl rfl rfl rfl) ?_
  refine zA (i := 14) rfl (by decide +kernel) (by decide +kernel) ?_
  refine wA (zc := [_, _, _]) (vs := [(0, .agg #[.slice _ _ _, .slice _ _ _, .slice _ _ _])]) (cs := [_, _, _]) rfl rfl rfl rfl rfl rfl rfl fun b25 hb25 => ?_
  refine wY [_, _] rfl ?_
  refine zA (i := 15) rfl (by decide +kernel) (by decide +kernel) ?_
  refine wZ 0 K4 rfl rfl rfl (fun V => rdP V (i := 1) rfl) rfl rfl rfl rfl rfl rfl rfl rfl rfl (by omega) rfl (by rw [hcl]; simp; omega) fun a2 h2a E2a ha2 => ?_
  refine wY [_, _] rfl ?_
  refine qI (i := 16) rfl (by decide +kernel) (qD (v := .slice _ _ _) rfl) ?_
  refine zN rfl ?_
  refine qB rfl ?_
  refine qA (qC (v := .int .i64 _) rfl) ?_
  refine qA (qS rfl (by omega)) ?_
  refine qA (qD (v := .int .i64 _) rfl) ?_
  refine ⟨(k + 1, a2, cs ++ [[.slice HA3 hs[k].hand.buttons.length cH3, .slice OA3 hs[k].hand.on.length cO3, .slice A4 hs[k].sounds.length c4]]), ⟨rfl, rfl, trivial⟩, rfl, rfl, (zT (zT (zT E_k E13) E4) E2a), fun h3 E3 => ⟨hkl, by rw [List.flatMap_append]; exact ha2, by rw [take_snoc hkl]; exact (Els.snoc (K5.ext TU.mono (zT (zT E13 E4) E2a)) (tu_of (RH3.ext (zT E4 E2a)) (R4.ext E2a))).ext TU.mono E3, three_len K6 rfl⟩, by first | omega | (dsimp only; omega), ?_⟩
  repeat (first | exact qW _ _ _ | refine wD (by decide) ?_ | refine qV rfl ?_ | refine wE rfl ?_)
 ·skip
  have hke : k = hs.length := by have := geI hk; omega
  subst hke
  rw [List.take_length] at K5
  refine wV ?_
  refine qE ?_
  refine qB rfl ?_
  refine qA (qC (v := .slice _ _ _) rfl) ?_
  refine qA (qD (v := .slice _ _ _) rfl) ?_
  refine qZ ?_
  refine qP (vs := [_]) Tryz.results11 ⟨qM rfl rfl, trivial⟩ fun V => ?_
  exact ⟨(zT E_k (qX V)), SlX.acc (i := 0) K4 (by omega) K6 V rfl (K5.ext TU.mono (qX V))⟩
theorem SameHeard_ok (hs : List HeardP) (S : SmlU hs) (A B : Option Addr) (c d : Nat) (cs ds : List (List Value)) (h : AH) (R : Row h 3 id A cs) (EL : Els h TU hs cs) (R' : Row h 3 id B ds) (EL' : Els h TU hs ds) :
  FnT Tryz.prog 25 #[.slice A hs.length c, .slice B hs.length d] h (fun v _ => v = .bool true) := by
 have q7 : ((hs.length : Int) == (hs.length : Int)) = true := by simp
 have hn := S.1
 refine wM Tryz.func25 rfl Tryz.ntmps25 rfl ?_
 refine qE ?_
 refine qB rfl ?_
 refine qA (qD (v := .bool _) rfl) ?_
 refine qE ?_
 refine qB rfl ?_
 refine qA (qC (v := .slice _ _ _) rfl) ?_
 refine qA (wK rfl rfl) ?_
 refine qA (qC (v := .slice _ _ _) rfl) ?_
 refine qA (wK rfl rfl) ?_
 refine qA (qN (v := .bool _) rfl) ?_
 refine qA (qD (v := .bool _) rfl) ?_
 refine qE ?_
 refine qE ?_
 refine qB rfl ?_
 refine qA (qD (v := .int .i64 _) rfl) ?_
 refine qQ ?_
 refine zP [5, 6, 12, 13, 14, 15, 16, 17, 18, 19, 20, 21, 22, 23, 24, 25, 26, 27, 28, 29, 30, 31, 32, 33, 34, 35, 36, 37, 38, 39, 40, 41, 42, 43, 44] 0 (α := Nat) (fun k => [(5, .bool true), (6, .int .i64 k)]) (fun k => _) (fun k h_k => k ≤ hs.length) (fun k => hs.length - k) (0) ⟨boolE q7, rfl, trivial⟩ (rfl) (Nat.zero_le _) ?_
 rintro k T1 h_k E_k J_k
 refine qT [] rfl ?_
 refine qE ?_
 refine qE ?_
 refine qB rfl ?_
 refine qA (qC (v := .bool _) rfl) ?_
 refine qA (qC (v := .bool _) rfl) ?_
 refine qG rfl rfl ?_
 refine qA (qC (v := .int .i64 _) rfl) ?_
 refine qG rfl rfl ?_
 refine qA (qC (v := .slice _ _ _) rfl) ?_
 refine qG rfl rfl ?_
 refine qA (wK rfl rfl) ?_
 refine qG rfl rfl ?_
 refine qA (qN (v := .bool _) rfl) ?_
 refine qA (wP rfl rfl (v := .bool _) rfl) ?_
 refine qU rfl (fun ht => ?_) (fun ht => ?_)
 ·skip
  have hkl : k < hs.length := ltI ht
  have SX := S.2 _ (List.getElem_mem hkl)
  have s1 := SX.h.b
  have s2 := SX.h.o
  have s3 := SX.s
  obtain ⟨hkc, B0, O0, U0, e0, ⟨HA, cH, rfl, r1⟩, ⟨OA, cO, rfl, r2⟩, ⟨XA, cX, rfl, r3⟩⟩ := (EL.ext TU.mono E_k).at hkl
  obtain ⟨hkd, B1, O1, U1, e1, ⟨HB, cHB, rfl, t1⟩, ⟨OB, cOB, rfl, t2⟩, ⟨XB, cXB, rfl, t3⟩⟩ := (EL'.ext TU.mono E_k).at hkl
  obtain ⟨g, off, hA, hc⟩ := (R.ext E_k).at (by omega) hkc
  obtain ⟨g', off', hB, hd⟩ := (R'.ext E_k).at (by omega) hkd
  have hc : Cells h_k g (off + k * 3) [.slice HA hs[k].hand.buttons.length cH, .slice OA hs[k].hand.on.length cO, .slice XA hs[k].sounds.length cX] := by rw [← e0]; exact hc
  have hd : Cells h_k g' (off' + k * 3) [.slice HB hs[k].hand.buttons.length cHB, .slice OB hs[k].hand.on.length cOB, .slice XB hs[k].sounds.length cXB] := by rw [← e1]; exact hd
  refine qR ?_
  refine qE ?_
  refine qQ ?_
  refine xp_dw [] rfl rfl rfl ?_
  refine qI (i := 0) rfl (by decide +kernel) (qC (v := .slice _ _ _) rfl) ?_
  refine qI (i := 1) rfl (by decide +kernel) (qC (v := .int .i64 _) rfl) ?_
  refine qI (i := 2) rfl (by decide +kernel) (wG (m := 3) rfl hA rfl rfl rfl (by omega) (by omega)) ?_
  refine qI (i := 3) rfl (by decide +kernel) (qF rfl rfl rfl rfl _ rfl) ?_
  refine wH (i := 4) rfl (by decide +kernel) ?_
  refine zK rfl rfl rfl rfl (hc.part 0 2) ?_
  refine qI (i := 5) rfl (by decide +kernel) (qC (v := .slice _ _ _) rfl) ?_
  refine qI (i := 6) rfl (by decide +kernel) (qC (v := .int .i64 _) rfl) ?_
  refine qI (i := 7) rfl (by decide +kernel) (wG (m := 3) rfl hB rfl rfl rfl (by omega) (by omega)) ?_
  refine qI (i := 8) rfl (by decide +kernel) (qF rfl rfl rfl rfl _ rfl) ?_
  refine wH (i := 9) rfl (by decide +kernel) ?_
  refine zK rfl rfl rfl rfl (hd.part 0 2) ?_
  refine zA (i := 10) rfl (by decide +kernel) (by decide +kernel) ?_
  refine wJ (caps := []) (vs := [.agg _, .agg _]) rfl rfl rfl (sameHandsS_ok hs[k].hand HA OA HB OB cH cO cHB cOB h_k ⟨r1, r2⟩ ⟨t1, t2⟩ (by omega) (by omega)) ?_
  rintro _ h3 E3 rfl
  refine qI (i := 11) rfl (by decide +kernel) (qC (v := .bool _) rfl) ?_
  refine zC (i := 12) rfl (by decide +kernel) rfl rfl (qC (v := .slice _ _ _) rfl) ?_
  refine zC (i := 13) rfl (by decide +kernel) rfl rfl (qC (v := .int .i64 _) rfl) ?_
  refine zC (i := 14) rfl (by decide +kernel) rfl rfl (wG (m := 3) rfl hA rfl rfl rfl (by omega) (by omega)) ?_
  refine zC (i := 15) rfl (by decide +kernel) rfl rfl (qF rfl rfl rfl rfl _ rfl) ?_
  refine dw_loadG (i := 16) rfl (by decide +kernel) rfl rfl ?_
  refine wS (v := .slice _ _ _) rfl rfl ((hc.ext E3) 2 _ rfl) ?_
  refine zC (i := 17) rfl (by decide +kernel) rfl rfl (qC (v := .slice _ _ _) rfl) ?_
  refine zC (i := 18) rfl (by decide +kernel) rfl rfl (qC (v := .int .i64 _) rfl) ?_
  refine zC (i := 19) rfl (by decide +kernel) rfl rfl (wG (m := 3) rfl hB rfl rfl rfl (by omega) (by omega)) ?_
  refine zC (i := 20) rfl (by decide +kernel) rfl rfl (qF rfl rfl rfl rfl _ rfl) ?_
  refine dw_loadG (i := 21) rfl (by decide +kernel) rfl rfl ?_
  refine wS (v := .slice _ _ _) rfl rfl ((hd.ext E3) 2 _ rfl) ?_
  refine dw_lastG (i := 22) rfl (by decide +kernel) (by decide +kernel) rfl rfl ?_
  refine wJ (caps := []) (vs := [.slice _ _ _, .slice _ _ _]) rfl rfl rfl (sameIntsS_ok hs[k].sounds _ _ _ _ h3 (r3.ext E3) (t3.ext E3) (by omega)) ?_
  rintro _ h4 E4 rfl
  refine qI (i := 23) rfl (by decide +kernel) (wP rfl rfl (v := .bool _) rfl) ?_
  refine qI (i := 24) rfl (by decide +kernel) (qD (v := .bool _) rfl) ?_
  refine zN rfl ?_
  refine qB rfl ?_
  refine qA (qC (v := .int .i64 _) rfl) ?_
  refine qA (qS rfl (by omega)) ?_
  refine qA (qD (v := .int .i64 _) rfl) ?_
  refine ⟨k + 1, ⟨rfl, rfl, trivial⟩, rfl, rfl, (zT (zT E_k E3) E4), fun h3 E3 => hkl, by first | omega | (dsimp only; omega), ?_⟩
  repeat (first | exact qW _ _ _ | refine wD (by decide) ?_ | refine qV rfl ?_ | refine wE rfl ?_)
 ·skip
  refine wV ?_
  refine qE ?_
  refine qB rfl ?_
  refine qA (qC (v := .bool _) rfl) ?_
  refine qA (qD (v := .bool _) rfl) ?_
  refine qZ ?_
  refine qP (vs := [_]) Tryz.results25 ⟨qM rfl rfl, trivial⟩ fun V => ?_
  exact ⟨(zT E_k (qX V)), rfl⟩
theorem many_ok (hs : List HeardP) (A : Option Addr) (c : Nat) (cs : List (List Value)) (h : AH) (R : Row h 3 id A cs) (EL : Els h TU hs cs) (hn : hs.length < 2 ^ 63) :
  FnT Tryz.prog 5 #[.slice A hs.length c] h (fun v _ => ∃ u : Bool, v = .bool u ∧ (u = false → SmlU hs)) := by
 refine wM Tryz.func5 rfl Tryz.ntmps5 rfl ?_
 refine qE ?_
 refine qB rfl ?_
 refine qA (qD (v := .bool _) rfl) ?_
 refine qE ?_
 refine qE ?_
 refine qB rfl ?_
 refine qA (qD (v := .int .i64 _) rfl) ?_
 refine qQ ?_
 refine zP [2, 3, 4, 5, 6, 7, 8, 9, 10, 11, 12, 13, 14, 15, 16, 17, 18, 19, 20, 21, 22, 23, 24, 25, 26, 27, 28, 29, 30, 31, 32, 33, 34, 35, 36, 37, 38, 39, 40] 0 (α := Nat) (fun k => [(3, .int .i64 k)]) (fun k => _) (fun k h_k => (k ≤ 20 ∧ k ≤ hs.length) ∧ ∀ x ∈ hs.take k, SmlX x) (fun k => 20 - k) (0) ⟨rfl, trivial⟩ (rfl) (⟨⟨by omega, Nat.zero_le _⟩, fun x hx => by simp at hx⟩) ?_
 rintro k T1 h_k E_k J_k
 refine qT [] rfl ?_
 obtain ⟨⟨K1, K2⟩, K3⟩ := J_k
 refine qE ?_
 refine qE ?_
 refine qB rfl ?_
 refine qA (qC (v := .int .i64 _) rfl) ?_
 refine qA (qC (v := .slice _ _ _) rfl) ?_
 refine qA (wK rfl rfl) ?_
 refine qA (qN (v := .bool _) rfl) ?_
 refine qA (qC (v := .bool _) rfl) ?_
 rcases Bool.eq_false_or_eq_true (decide ((k : Int) < (hs.length : Int))) with e1 | e1
 ·skip
  have hkl : k < hs.length := ltI e1
  refine qG rfl e1 ?_
  refine qA (qC (v := .int .i64 _) rfl) ?_
  refine qG rfl e1 ?_
  refine qA (qN (v := .bool _) rfl) ?_
  refine qA (wP rfl e1 (v := .bool _) rfl) ?_
  refine qU rfl (fun ht => ?_) (fun ht => ?_)
  ·skip
   have hk20 : k < 20 := by have := of_decide_eq_true ht; omega
   obtain ⟨hkc, B0, O0, U0, e0, ⟨HA, cH, rfl, r1⟩, ⟨OA, cO, rfl, r2⟩, ⟨XA, cX, rfl, r3⟩⟩ := (EL.ext TU.mono E_k).at hkl
   obtain ⟨g, off, hA, hc⟩ := (R.ext E_k).at (by omega) hkc
   have hc : Cells h_k g (off + k * 3) [.slice HA hs[k].hand.buttons.length cH, .slice OA hs[k].hand.on.length cO, .slice XA hs[k].sounds.length cX] := by rw [← e0]; exact hc
   rcases Bool.eq_false_or_eq_true (decide ((hs[k].hand.buttons.length : Int) > 20)) with f1 | f1
   ·skip
    refine qR ?_
    refine qE ?_
    refine qQ ?_
    refine qE ?_
    refine qB rfl ?_
    refine qA (qC (v := .slice _ _ _) rfl) ?_
    refine qA (qC (v := .int .i64 _) rfl) ?_
    refine qA (wG (m := 3) rfl hA rfl rfl rfl (by omega) (by omega)) ?_
    refine qA (qF rfl rfl rfl rfl _ rfl) ?_
    refine qA (qF rfl rfl rfl rfl _ rfl) ?_
    refine wS (v := .slice _ _ _) rfl rfl (hc 0 _ rfl) ?_
    refine qA (wK rfl rfl) ?_
    refine qA (qN (v := .bool _) rfl) ?_
    refine qA (qC (v := .bool _) rfl) ?_
    refine qK rfl f1 ?_
    refine qK rfl f1 ?_
    refine qK rfl f1 ?_
    refine qK rfl f1 ?_
    refine qK rfl f1 ?_
    refine qK rfl f1 ?_
    refine qK rfl f1 ?_
    refine qK rfl f1 ?_
    refine qA (wP rfl f1 (v := .bool _) rfl) ?_
    refine qA (qC (v := .bool _) rfl) ?_
    refine qK rfl rfl ?_
    refine qK rfl rfl ?_
    refine qK rfl rfl ?_
    refine qK rfl rfl ?_
    refine qK rfl rfl ?_
    refine qK rfl rfl ?_
    refine qK rfl rfl ?_
    refine qA (wP rfl rfl (v := .bool _) rfl) ?_
    refine xp_condT rfl (rfl) ?_
    refine qE ?_
    refine qB rfl ?_
    refine qA (qD (v := .bool _) rfl) ?_
    refine qZ ?_
    refine qP (vs := [_]) Tryz.results5 ⟨qM rfl rfl, trivial⟩ fun V => ?_
    exact ⟨(zT E_k (qX V)), true, rfl, fun h => absurd h (by decide)⟩
   ·rcases Bool.eq_false_or_eq_true (decide ((hs[k].hand.on.length : Int) > 20)) with f2 | f2
    ·skip
     refine qR ?_
     refine qE ?_
     refine qQ ?_
     refine qE ?_
     refine qB rfl ?_
     refine qA (qC (v := .slice _ _ _) rfl) ?_
     refine qA (qC (v := .int .i64 _) rfl) ?_
     refine qA (wG (m := 3) rfl hA rfl rfl rfl (by omega) (by omega)) ?_
     refine qA (qF rfl rfl rfl rfl _ rfl) ?_
     refine qA (qF rfl rfl rfl rfl _ rfl) ?_
     refine wS (v := .slice _ _ _) rfl rfl (hc 0 _ rfl) ?_
     refine qA (wK rfl rfl) ?_
     refine qA (qN (v := .bool _) rfl) ?_
     refine qA (qC (v := .bool _) rfl) ?_
     refine qG rfl f1 ?_
     refine qA (qC (v := .slice _ _ _) rfl) ?_
     refine qG rfl f1 ?_
     refine qA (qC (v := .int .i64 _) rfl) ?_
     refine qG rfl f1 ?_
     refine qA (wG (m := 3) rfl hA rfl rfl rfl (by omega) (by omega)) ?_
     refine qG rfl f1 ?_
     refine qA (qF rfl rfl rfl rfl _ rfl) ?_
     refine qG rfl f1 ?_
     refine qA (qF rfl rfl rfl rfl _ rfl) ?_
     refine qG rfl f1 ?_
     refine wS (v := .slice _ _ _) rfl rfl (hc 1 _ rfl) ?_
     refine qG rfl f1 ?_
     refine qA (wK rfl rfl) ?_
     refine qG rfl f1 ?_
     refine qA (qN (v := .bool _) rfl) ?_
     refine qA (wT rfl f1 (v := .bool _) rfl) ?_
     refine qA (qC (v := .bool _) rfl) ?_
     refine qK rfl f2 ?_
     refine qK rfl f2 ?_
     refine qK rfl f2 ?_
     refine qK rfl f2 ?_
     refine qK rfl f2 ?_
     refine qK rfl f2 ?_
     refine qK rfl f2 ?_
     refine qA (wP rfl f2 (v := .bool _) rfl) ?_
     refine xp_condT rfl (rfl) ?_
     refine qE ?_
     refine qB rfl ?_
     refine qA (qD (v := .bool _) rfl) ?_
     refine qZ ?_
     refine qP (vs := [_]) Tryz.results5 ⟨qM rfl rfl, trivial⟩ fun V => ?_
     exact ⟨(zT E_k (qX V)), true, rfl, fun h => absurd h (by decide)⟩
    ·skip
     refine qR ?_
     refine qE ?_
     refine qQ ?_
     refine qE ?_
     refine qB rfl ?_
     refine qA (qC (v := .slice _ _ _) rfl) ?_
     refine qA (qC (v := .int .i64 _) rfl) ?_
     refine qA (wG (m := 3) rfl hA rfl rfl rfl (by omega) (by omega)) ?_
     refine qA (qF rfl rfl rfl rfl _ rfl) ?_
     refine qA (qF rfl rfl rfl rfl _ rfl) ?_
     refine wS (v := .slice _ _ _) rfl rfl (hc 0 _ rfl) ?_
     refine qA (wK rfl rfl) ?_
     refine qA (qN (v := .bool _) rfl) ?_
     refine qA (qC (v := .bool _) rfl) ?_
     refine qG rfl f1 ?_
     refine qA (qC (v := .slice _ _ _) rfl) ?_
     refine qG rfl f1 ?_
     refine qA (qC (v := .int .i64 _) rfl) ?_
     refine qG rfl f1 ?_
     refine qA (wG (m := 3) rfl hA rfl rfl rfl (by omega) (by omega)) ?_
     refine qG rfl f1 ?_
     refine qA (qF rfl rfl rfl rfl _ rfl) ?_
     refine qG rfl f1 ?_
     refine qA (qF rfl rfl rfl rfl _ rfl) ?_
     refine qG rfl f1 ?_
     refine wS (v := .slice _ _ _) rfl rfl (hc 1 _ rfl) ?_
     refine qG rfl f1 ?_
     refine qA (wK rfl rfl) ?_
     refine qG rfl f1 ?_
     refine qA (qN (v := .bool _) rfl) ?_
     refine qA (wT rfl f1 (v := .bool _) rfl) ?_
     refine qA (qC (v := .bool _) rfl) ?_
     refine qG rfl f2 ?_
     refine qA (qC (v := .slice _ _ _) rfl) ?_
     refine qG rfl f2 ?_
     refine qA (qC (v := .int .i64 _) rfl) ?_
     refine qG rfl f2 ?_
     refine qA (wG (m := 3) rfl hA rfl rfl rfl (by omega) (by omega)) ?_
     refine qG rfl f2 ?_
     refine qA (qF rfl rfl rfl rfl _ rfl) ?_
     refine qG rfl f2 ?_
     refine wS (v := .slice _ _ _) rfl rfl (hc 2 _ rfl) ?_
     refine qG rfl f2 ?_
     refine qA (wK rfl rfl) ?_
     refine qG rfl f2 ?_
     refine qA (qN (v := .bool _) rfl) ?_
     refine qA (wT rfl f2 (v := .bool _) rfl) ?_
     refine qU rfl (fun f3 => ?_) (fun f3 => ?_)
     ·skip
      refine qE ?_
      refine qB rfl ?_
      refine qA (qD (v := .bool _) rfl) ?_
      refine qZ ?_
      refine qP (vs := [_]) Tryz.results5 ⟨qM rfl rfl, trivial⟩ fun V => ?_
      exact ⟨(zT E_k (qX V)), true, rfl, fun h => absurd h (by decide)⟩
     ·skip
      have g1 := of_decide_eq_false f1
      have g2 := of_decide_eq_false f2
      have g3 := of_decide_eq_false f3
      refine qR ?_
      refine qB rfl ?_
      refine qA (qC (v := .int .i64 _) rfl) ?_
      refine qA (qS rfl (by omega)) ?_
      refine qA (qD (v := .int .i64 _) rfl) ?_
      refine ⟨k + 1, ⟨rfl, trivial⟩, rfl, rfl, E_k, fun h3 E3 => ⟨⟨by omega, hkl⟩, by rw [take_snoc hkl]; exact mem_one K3 ⟨⟨by omega, by omega⟩, by omega⟩⟩, by first | omega | (dsimp only; omega), ?_⟩
      repeat (first | exact qW _ _ _ | refine wD (by decide) ?_ | refine qV rfl ?_ | refine wE rfl ?_)
  ·skip
   have hk20 : ¬ k < 20 := by have := of_decide_eq_false ht; omega
   refine wV ?_
   refine qE ?_
   refine qB rfl ?_
   refine qA (qC (v := .slice _ _ _) rfl) ?_
   refine qA (wK rfl rfl) ?_
   refine qA (qN (v := .bool _) rfl) ?_
   refine qA (qD (v := .bool _) rfl) ?_
   refine qZ ?_
   refine qP (vs := [_]) Tryz.results5 ⟨qM rfl rfl, trivial⟩ fun V => ?_
   exact ⟨(zT E_k (qX V)), _, rfl, fun h => absurd (of_decide_eq_false h) (by omega)⟩
 ·skip
  have hke : k = hs.length := by have := geI e1; omega
  subst hke
  rw [List.take_length] at K3
  refine qK rfl e1 ?_
  refine qK rfl e1 ?_
  refine qA (wT rfl e1 (v := .bool _) rfl) ?_
  refine qU rfl (fun ht => ?_) (fun ht => ?_)
  ·cases ht
  ·skip
   refine wV ?_
   refine qE ?_
   refine qB rfl ?_
   refine qA (qC (v := .slice _ _ _) rfl) ?_
   refine qA (wK rfl rfl) ?_
   refine qA (qN (v := .bool _) rfl) ?_
   refine qA (qD (v := .bool _) rfl) ?_
   refine qZ ?_
   refine qP (vs := [_]) Tryz.results5 ⟨qM rfl rfl, trivial⟩ fun V => ?_
   exact ⟨(zT E_k (qX V)), _, rfl, fun h => ⟨by have := of_decide_eq_false h; omega, K3⟩⟩
theorem best_sml {m : MachP} (M : MOK m) (ms : List (List FaultP)) : ∀ k, SmlH (bestN m ms k).1
 | 0 => ⟨by show 0 < _; decide, by show 0 < _; decide⟩
 | k + 1 => by
  cases h : (handsM m)[k]? with
  | none =>
   have e : bestN m ms (k + 1) = bestN m ms k := by
    unfold bestN
    rw [List.take_add_one, h]
    simp
   rw [e]
   exact best_sml M ms k
  | some a =>
   rw [bestN_succ h, bestS]
   have := M.regs
   split
   ·exact HOK.sml M (hands_hok ⟨by omega, by omega⟩ h)
   ·exact best_sml M ms k
theorem test_sml (m : MachP) (hs : List HeardP) : SmlH (testA m hs) := by
 unfold testA
 split
 ·rename_i h
  have hz1 : checkHeardM m hs = 0 := by
   by_cases a1 : checkHeardM m hs = 0
   ·exact a1
   ·rw [testE, if_pos a1] at h; exact absurd h a1
  exact best_sml (checkHeard_zero hz1).1 _ _
 ·exact ⟨by show 0 < _; decide, by show 0 < _; decide⟩
theorem susp_le (m : MachP) (hs : List HeardP) : (suspL m hs).length < 2 ^ 40 := by
 unfold suspL
 split
 ·rename_i h
  have hz1 : checkHeardM m hs = 0 := by
   by_cases a1 : checkHeardM m hs = 0
   ·exact a1
   ·rw [suspE, if_pos a1] at h; exact absurd h a1
  have := (faults24 (checkHeard_zero hz1).1).2
  have h2 := suspN_len m hs (faultsM m).length
  unfold suspectsM
  omega
 ·simp
theorem fewE_zero {m : MachP} {hs : List HeardP} (h : fewE m hs = 0) : MOK m := by
 by_cases a1 : checkHeardM m hs = 0
 ·exact (checkHeard_zero a1).1
 ·rw [fewE, if_pos a1] at h; exact absurd h a1
theorem fewA_le (m : MachP) (hs : List HeardP) : (fewA m hs).length < 2 ^ 40 := by
 unfold fewA
 split
 ·rename_i h
  have hf := (fewest_le (fewE_zero h) hs).2
  cases hF : fewestL m hs with
  | nil => simp
  | cons x F => have := hf x (by rw [hF]; simp); show x.length < _; omega
 ·simp
theorem blamA_le (m : MachP) (hs : List HeardP) : (blamA m hs).length < 2 ^ 40 := by
 unfold blamA
 split
 ·rename_i h
  have := (faults24 (fewE_zero h)).2
  simp [blameK]
  omega
 ·simp
end
end Go.Proofs.YthphpbdmbmiaiaaGreat
namespace Go.Proofs.YthphpbdmbmiaiaaGreat
open Go Go.HL Go.Wx Go.Rd Go.RowKit Go.ChangeShapes Go.WideShapes
variable [Lvl]
set_option maxRecDepth 100000
theorem cellsT_heard : Tryz.prog.cellsOf 31 = 3 := by kernel_rfl
section
variable {H : Type} {enc : TypeId × Value → H} {w : World} {base : Nat} {spare : Nat → Bool} {held : Bool}
theorem leaf_heard {n : Nat} {cs : List Value} {x : DataW H × List MemPlace} (h : DataW.trod enc Tryz.prog w base spare held n 31 cs = some x) : ∃ (y : HeardP) (HA OA UA : Option Addr) (cH cO cU : Nat), cs = [.slice HA y.hand.buttons.length cH, .slice OA y.hand.on.length cO, .slice UA y.sounds.length cU] ∧ HandR (absH w.heap) HA OA y.hand ∧ Row (absH w.heap) 1 intC UA y.sounds := by
 obtain ⟨xs, m, _, _, hl, hx, hf⟩ := DataW.trod_struct Tryz.underlying31 h
 rw [cellsT_heard] at hl
 obtain ⟨y0, e0⟩ := ud_at (i := 0) hx (by decide)
 obtain ⟨y1, e1⟩ := ud_at (i := 1) hx (by decide)
 obtain ⟨a, HA, OA, cH, cO, h0, R0⟩ := leaf_hand ((show DataW.trod enc Tryz.prog w base spare held m 29 ((cs.drop 0).take (Tryz.prog.cellsOf 29)) = xs[0]? from hf 0 _ rfl).trans e0)
 obtain ⟨A1, n1, c1, l1, h1, k1, R1, hc1, _⟩ := row_sliceC intC Tryz.underlying22 cellsT_int (by omega) (fun _ => rfl) (fun _ _ _ => leaf_int) ((show DataW.trod enc Tryz.prog w base spare held m 22 ((cs.drop 2).take (Tryz.prog.cellsOf 22)) = xs[1]? from hf 1 _ rfl).trans e1)
 rw [cellsT_hand] at h0
 rw [cellsT_ints] at h1
 match cs, hl with
 | [u0, u1, u2], _ =>
  simp at h0 h1
  exact ⟨⟨a, l1⟩, HA, OA, A1, cH, cO, c1, by rw [h0.1, h0.2, h1, ← k1], R0, R1⟩
theorem heard_in {r : Reach} {b0 : Nat} {v : Value} {d : DataW H} {p : List MemPlace} (hv : Value.okWide Tryz.prog w r b0 31 v) (h : DataW.Trod enc Tryz.prog w base spare held 31 v d p) :
  ∃ (y : HeardP) (HA OA UA : Option Addr) (cH cO cU : Nat), v = .agg #[.slice HA y.hand.buttons.length cH, .slice OA y.hand.on.length cO, .slice UA y.sounds.length cU] ∧ HandR (absH w.heap) HA OA y.hand ∧ Row (absH w.heap) 1 intC UA y.sounds := by
 obtain ⟨cs, rfl, hs⟩ := okWide_struct Tryz.underlying31 hv
 obtain ⟨fuel, hf0⟩ := h
 have hcs : (Value.agg cs).cells.toList = cs.toList := rfl
 rw [hcs] at hf0
 obtain ⟨y, HA, OA, UA, cH, cO, cU, e, R, S⟩ := leaf_heard hf0
 exact ⟨y, HA, OA, UA, cH, cO, cU, by rw [← e], R, S⟩
theorem heards_in {r : Reach} {b0 : Nat} {v : Value} {d : DataW H} {p : List MemPlace} (hv : Value.okWide Tryz.prog w r b0 27 v) (h : DataW.Trod enc Tryz.prog w base spare held 27 v d p) :
  ∃ (hs : List HeardP) (A : Option Addr) (c : Nat) (cs : List (List Value)), v = .slice A hs.length c ∧ Row (absH w.heap) 3 id A cs ∧ Els (absH w.heap) TU hs cs ∧ hs.length ≤ maxLen := by
 obtain ⟨a0, len0, cap0, rfl⟩ := okWide_slice Tryz.underlying27 hv
 obtain ⟨fuel, hf⟩ := h
 obtain ⟨A, n, c, l, e, k, R, h1, h2⟩ := row_sliceC (fun p : {q : HeardP × List Value // TU (absH w.heap) q.1 q.2} => p.1.2) Tryz.underlying27 cellsT_heard (by omega)
  (fun p => by obtain ⟨_, _, _, e, _⟩ := p.2; rw [e]; rfl)
  (fun _ cs _ ht => by
   obtain ⟨y, HA, OA, UA, cH, cO, cU, e, R, S⟩ := leaf_heard ht
   exact ⟨⟨(y, cs), _, _, _, e, ⟨HA, cH, rfl, R.b⟩, ⟨OA, cO, rfl, R.o⟩, ⟨UA, cU, rfl, S⟩⟩, rfl⟩) hf
 have hcs : (Value.slice a0 len0 cap0).cells.toList = [.slice a0 len0 cap0] := rfl
 rw [hcs] at e
 simp at e
 obtain ⟨rfl, rfl, rfl⟩ := e
 subst k
 refine ⟨l.map fun p => p.1.1, _, _, l.map fun p => p.1.2, by rw [List.length_map], ⟨fun x hx => ?_, ?_⟩, ⟨by rw [List.length_map, List.length_map], fun i x y h1 h2 => ?_⟩, by rw [List.length_map]; exact Nat.le_trans h1 h2⟩
 ·obtain ⟨q, hq, rfl⟩ := List.mem_map.1 hx
  exact R.1 q hq
 ·have e2 : (l.map fun p => p.1.2).flatMap id = l.flatMap fun p => p.1.2 := by rw [List.flatMap_map]; rfl
  rw [e2]
  exact R.2
 ·rw [List.getElem?_map] at h1 h2
  cases hq : l[i]? with
  | none => rw [hq] at h1; simp at h1
  | some q =>
   rw [hq] at h1 h2
   simp at h1 h2
   subst h1 h2
   exact q.2
end
end Go.Proofs.YthphpbdmbmiaiaaGreat
namespace Go.Proofs.YthphpbdmbmiaiaaGreat
open Go Go.HL Go.Proofs Go.Wx Go.Rd
section
variable [Lvl]
set_option maxRecDepth 100000
theorem wr_row {m : Nat} {cs : List (List Value)} {c junk : List Value} {i o : Nat} (ho : o = i * m) (hi : i < cs.length) (hm : ∀ x ∈ cs, x.length = m) (hc : c.length = m) : wrL (cs.flatMap id ++ junk) o c = (cs.set i c).flatMap id ++ junk := by
 have hci := hm _ (List.getElem_mem hi)
 have e1 : cs = cs.take i ++ cs[i] :: cs.drop (i + 1) := by rw [← List.drop_eq_getElem_cons hi, List.take_append_drop]
 have e2 : cs.set i c = cs.take i ++ c :: cs.drop (i + 1) := List.set_eq_take_append_cons_drop .. |>.trans (by rw [if_pos hi])
 have e3 : ((cs.take i).flatMap id).length = o := by
  rw [wN (enc := id) (m := m) (fun x hx => hm x (List.mem_of_mem_take hx)), List.length_take, ho]
  congr 1
  omega
 have e4 : cs.flatMap id ++ junk = (cs.take i).flatMap id ++ (cs[i] ++ ((cs.drop (i + 1)).flatMap id ++ junk)) := by
  conv => lhs; rw [e1]
  rw [List.flatMap_append, List.flatMap_cons, List.append_assoc, List.append_assoc]
  rfl
 rw [e4, ← e3, wrL_mid _ _ _ (by rw [List.length_append]; omega), e2, hc, ← hci, List.drop_left, List.flatMap_append, List.flatMap_cons, List.append_assoc, List.append_assoc, List.append_assoc]
 rfl
theorem acc_some {e : TypeId} {m : Nat} {cs : List Value} {a : Acc} (r : AccR e m cs a) (hc : cs ≠ []) : ∃ b len cap junk, cs.length = len * m ∧ (cs ++ junk).length = cap * m ∧ a = ⟨some (b, .cells (cs ++ junk).toArray e (0, 0)), some ⟨b, 0, none⟩, len, cap⟩ := by
 obtain ⟨p, A, n, c⟩ := a
 rcases r with ⟨_, h, _⟩ | ⟨b, len, cap, junk, hl, ev, hpp, hj⟩
 ·exact absurd h hc
 ·injection ev with h1 h2 h3
  dsimp only at h1 h2 h3 hpp
  exact ⟨b, len, cap, junk, hl, hj, by rw [h1, h2, h3, hpp]⟩
theorem Els.set {α : Type} {h : AH} {T : AH → α → List Value → Prop} {l : List α} {cs : List (List Value)} {x : α} {c : List Value} {i : Nat} (r : Els h T l cs) (t : T h x c) : Els h T (l.set i x) (cs.set i c) := by
 refine ⟨by rw [List.length_set, List.length_set]; exact r.1, fun j y d h1 h2 => ?_⟩
 rw [List.getElem?_set] at h1 h2
 by_cases hij : i = j
 ·subst hij
  rw [if_pos rfl] at h1 h2
  split at h1
  ·split at h2
   ·cases h1; cases h2; exact t
   ·cases h2
  ·cases h1
 ·rw [if_neg hij] at h1 h2
  exact r.2 j y d h1 h2
def TLU (h : AH) (hs : List HeardP) (c : List Value) : Prop := ∃ A cap cs, c = [.slice A hs.length cap] ∧ Row h 3 id A cs ∧ Els h TU hs cs
theorem TLU.mono : Mono TLU := fun h h' l c e ⟨A, cap, cs, hc, r, s⟩ => ⟨A, cap, cs, hc, r.ext e, s.ext TU.mono e⟩
theorem set_mem {α : Type} {P : α → Prop} {l : List α} {i : Nat} {z : α} (h : ∀ x ∈ l, P x) (hz : P z) : ∀ x ∈ l.set i z, P x := fun x hx => by
 rcases List.mem_or_eq_of_mem_set hx with h1 | h1
 ·exact h x h1
 ·exact h1 ▸ hz
set_option maxHeartbeats 16000000 in
theorem suspects_runs (w : World) (m0 : MachP) (AB0 AQ0 AL0 AW0 : Option Addr) (cB0 cQ0 cL0 cW0 : Nat) (RM0 : MachR (absH w.heap) AB0 AQ0 AL0 AW0 m0) (u1 : m0.pins.length ≤ cQ0) (u2 : m0.links.length ≤ cL0) (hs0 : List HeardP) (UA0 : Option Addr) (cU0 : Nat) (us0 : List (List Value)) (RU0 : Row (absH w.heap) 3 id UA0 us0) (EU0 : Els (absH w.heap) TU hs0 us0) (hn0 : hs0.length < 2 ^ 63) (x0 : HeardP) (HA0 HO0 HX0 : Option Addr) (cH0 cP0 cX0 : Nat) (RH0 : HandR (absH w.heap) HA0 HO0 x0.hand) (RX0 : Row (absH w.heap) 1 intC HX0 x0.sounds) (z1 : Int) (l : List Int) (A : Option Addr) (c : Nat) (R : Row (absH w.heap) 1 intC A l) (hl : l.length < 2 ^ 63) :
  RunsTrue Tryz.prog 3 #[machV AB0 AQ0 AL0 AW0 cB0 cQ0 cL0 cW0 m0, .slice UA0 hs0.length cU0, .agg #[.slice HA0 x0.hand.buttons.length cH0, .slice HO0 x0.hand.on.length cP0, .slice HX0 x0.sounds.length cX0], .int .i64 z1, .slice A l.length c] w := by
 letI : Lvl := ⟨true, none, none⟩
 refine runs_body Tryz.func3 rfl Tryz.ntmps3 rfl Tryz.results3 rfl (by kernel_rfl) fun h hh => ?_
 rw [← hh] at RM0 RU0 EU0 RH0 RX0 R
 refine qE ?_
 refine qB rfl ?_
 refine zG (v := .agg #[.int .i64 _, .int .i64 _, .int .i64 _, .int .i64 _, .int .i64 _, .slice _ _ _, .slice _ _ _, .slice _ _ _, .slice _ _ _]) (cs := [_, _, _, _, _, _, _, _, _]) rfl rfl fun b5 hb5 => ?_
 refine qL [_] rfl ?_
 refine zG (v := .agg #[.slice _ _ _, .slice _ _ _, .slice _ _ _]) (cs := [_, _, _]) rfl rfl fun b7 hb7 => ?_
 refine qL [_, _] rfl ?_
 refine qA (qD (v := .bool _) rfl) ?_
 refine qE ?_
 refine qE ?_
 refine qB rfl ?_
 refine qY 0 (vs := [.int .i64 _, .int .i64 _, .int .i64 _, .int .i64 _, .int .i64 _, .slice _ _ _, .slice _ _ _, .slice _ _ _, .slice _ _ _]) rfl rfl rfl rfl rfl ?_
 refine qA (qF rfl rfl rfl rfl 0 rfl) ?_
 refine qY 1 (vs := [.slice _ _ _, .slice _ _ _]) rfl rfl rfl rfl rfl ?_
 refine wJ (caps := []) (vs := [.agg _, .agg _]) rfl rfl rfl (large_ok m0 x0.hand AB0 AQ0 AL0 AW0 HA0 HO0 cB0 cQ0 cL0 cW0 cH0 cP0 h) ?_
 rintro _ g0 G0 rfl
 rcases Bool.eq_false_or_eq_true (largeB m0 x0.hand) with hL | hL
 ·skip
  refine qA (qC (v := .bool _) rfl) ?_
  refine qK rfl hL ?_
  refine qK rfl hL ?_
  refine qA (wP rfl hL (v := .bool _) rfl) ?_
  refine qA (qC (v := .bool _) rfl) ?_
  refine qK rfl rfl ?_
  refine qK rfl rfl ?_
  refine qK rfl rfl ?_
  refine qK rfl rfl ?_
  refine qA (wP rfl rfl (v := .bool _) rfl) ?_
  refine xp_condT rfl (rfl) ?_
  refine qE ?_
  refine qB rfl ?_
  refine wJ (caps := []) (vs := []) rfl rfl rfl (rod_sounding rfl g0) ?_
  rintro _ h26 E26 rfl
  refine qA (qD (v := .bool _) rfl) ?_
  refine qZ ?_
  exact ⟨rfl, fun V => (zT (zT G0 E26) (qX V)), rfl⟩
 ·skip
  refine qA (qC (v := .bool _) rfl) ?_
  refine qG rfl hL ?_
  refine qA (qC (v := .slice _ _ _) rfl) ?_
  refine qG rfl hL ?_
  refine wJ (caps := []) (vs := [.slice _ _ _]) rfl rfl rfl (many_ok hs0 UA0 cU0 us0 g0 (RU0.ext G0) (EU0.ext TU.mono G0) hn0) ?_
  rintro _ g1 G1 ⟨u, rfl, hu⟩
  rcases Bool.eq_false_or_eq_true u with hU | hU
  ·skip
   refine qA (wT rfl hL (v := .bool _) rfl) ?_
   refine qA (qC (v := .bool _) rfl) ?_
   refine qK rfl hU ?_
   refine qK rfl hU ?_
   refine qK rfl hU ?_
   refine qK rfl hU ?_
   refine qA (wP rfl hU (v := .bool _) rfl) ?_
   refine xp_condT rfl (rfl) ?_
   refine qE ?_
   refine qB rfl ?_
   refine wJ (caps := []) (vs := []) rfl rfl rfl (rod_sounding rfl g1) ?_
   rintro _ h26 E26 rfl
   refine qA (qD (v := .bool _) rfl) ?_
   refine qZ ?_
   exact ⟨rfl, fun V => (zT (zT (zT G0 G1) E26) (qX V)), rfl⟩
  ·skip
   refine qA (wT rfl hL (v := .bool _) rfl) ?_
   refine qA (qC (v := .bool _) rfl) ?_
   refine qG rfl hU ?_
   refine qA (qF rfl rfl rfl rfl 2 rfl) ?_
   refine qG rfl hU ?_
   refine qJ 1 (v := .slice _ _ _) rfl rfl rfl rfl ?_
   refine qG rfl hU ?_
   refine qA (wK rfl rfl) ?_
   refine qG rfl hU ?_
   refine qA (qN (v := .bool _) rfl) ?_
   refine qA (wT rfl hU (v := .bool _) rfl) ?_
   refine qU rfl (fun hS => ?_) (fun hS => ?_)
   ·skip
    refine qE ?_
    refine qB rfl ?_
    refine wJ (caps := []) (vs := []) rfl rfl rfl (rod_sounding rfl g1) ?_
    rintro _ h26 E26 rfl
    refine qA (qD (v := .bool _) rfl) ?_
    refine qZ ?_
    exact ⟨rfl, fun V => (zT (zT (zT G0 G1) E26) (qX V)), rfl⟩
   ·skip
    obtain ⟨S0, SH0⟩ := large_sml hL
    have SU0 := hu hU
    have SX0 : SmlX x0 := ⟨SH0, by have := of_decide_eq_false hS; omega⟩
    refine qR ?_
    refine qE ?_
    refine qB rfl ?_
    refine qA (qC (v := .slice _ _ _) rfl) ?_
    refine op_fnMM [_, _] [] [] rfl rfl rfl ((NewPot_ok l hl A c g1 (R.ext (zT G0 G1)))) ?_
    rintro _ h1 _ E1 ⟨b, x, rfl, rfl⟩
    refine qL [_, _, _] rfl ?_
    refine qA (qD (v := .pointer _) rfl) ?_
    refine qE ?_
    refine qB rfl ?_
    refine qA (qC (v := .pointer _) rfl) ?_
    refine op_fnMM [_, _] [_] [] (vs := _) rfl rfl rfl ((MachineOf_okC b x 4 6 3 (by omega) (by omega) (by omega) h1)) ?_
    rintro _ h2 _ E2 ⟨x2, m, rfl, VM, Md, hCap⟩
    refine qL [_, _, _] rfl ?_
    obtain ⟨AB, AQ, AL, AW, cB, cQ, cL, cW, rfl, RM⟩ := VM.open
    obtain ⟨hcQ, hcL⟩ := hCap _ _ _ _ _ _ _ _ _ rfl
    have M := Md.ok
    refine zF (cs := [_, _, _, _, _, _, _, _, _]) rfl rfl fun b12 hb12 => ?_
    refine qL [_, _, _, _] rfl ?_
    refine wI 3 (v := .agg #[.int .i64 _, .int .i64 _, .int .i64 _, .int .i64 _, .int .i64 _, .slice _ _ _, .slice _ _ _, .slice _ _ _, .slice _ _ _]) (vs := [_, _, _, _, _, _, _, _, _]) (c' := [_, _, _, _, _, _, _, _, _]) rfl rfl rfl rfl rfl rfl rfl rfl rfl ?_
    refine qL [_, _, _, _] rfl ?_
    refine qE ?_
    refine xp_dw [false, false, true, false] rfl rfl rfl ?_
    refine qI (i := 0) rfl (by decide +kernel) (qC (v := .pointer _) rfl) ?_
    refine wH (i := 1) rfl (by decide +kernel) ?_
    refine qY 3 (vs := [.int .i64 _, .int .i64 _, .int .i64 _, .int .i64 _, .int .i64 _, .slice _ _ _, .slice _ _ _, .slice _ _ _, .slice _ _ _]) rfl rfl rfl rfl rfl ?_
    refine qI (i := 2) rfl (by decide +kernel) (qC (v := .pointer _) rfl) ?_
    refine wH (i := 3) rfl (by decide +kernel) ?_
    refine qY 3 (vs := [.int .i64 _, .int .i64 _, .int .i64 _, .int .i64 _, .int .i64 _, .slice _ _ _, .slice _ _ _, .slice _ _ _, .slice _ _ _]) rfl rfl rfl rfl rfl ?_
    refine dw_eff (i := 4) rfl (by decide +kernel) ?_
    refine op_fnMM [_, _] [_] [_] (vs := [.pointer _, .agg _]) rfl rfl rfl ((faultsOf_ok b x2 m M AB AQ AL AW cB cQ cL cW h2 (RM.ext (Ext.refl _)))) ?_
    rintro _ h4 _ E4 ⟨x4, ls, rfl, ⟨NA, cN, rfl, RS⟩, HS, hls⟩
    refine ⟨ext_wlm E4 _, ?_⟩
    refine wY [_, _, _, _] rfl ?_
    refine zA (i := 5) rfl (by decide +kernel) (by decide +kernel) ?_
    refine op_fnMM [_, _] [_] [_] (vs := [.pointer _, .agg _, .slice _ _ _, .int .i64 _]) rfl rfl rfl ((heardOf_ok b x4 m M ls HS 4 (by omega) AB AQ AL AW NA cB cQ cL cW cN hcQ hcL h4 (RM.ext E4) (RS.ext (Ext.refl _)))) ?_
    rintro _ h5 _ E5 ⟨x5, hs, rfl, SH, hsl, hsx⟩
    refine wY [_, _, _, _] rfl ?_
    obtain ⟨cs5, A5, c5, rfl, R5, EL5⟩ := SlX.els SH
    have SU : SmlU hs := ⟨by omega, fun x hx => ⟨HOK.sml M (hsx x hx).1, by rw [(hsx x hx).2]; have := listN_len (soundsB m (pickL m ls) x.hand) 6; omega⟩⟩
    refine qI (i := 6) rfl (by decide +kernel) (qD (v := .slice _ _ _) rfl) ?_
    refine zN rfl ?_
    refine qE ?_
    refine qB rfl ?_
    refine qA (qC (v := .slice _ _ _) rfl) ?_
    refine op_fnMM [_, _, _, _] [] [] rfl rfl rfl ((CopyHeard_okM hs SU.cp.1 SU.cp.2 A5 c5 cs5 h5 (R5.ext (Ext.refl _)) (EL5.ext TU.mono (Ext.refl _)))) ?_
    rintro _ h6 _ E6 ⟨a6, cs6, rfl, rfl, ha6, el6, ln6⟩
    refine qL [_, _, _, _, _] rfl ?_
    have hn6 : a6.n = hs.length := by have := AccR.len ha6; rw [wN (enc := id) (m := 3) ln6, el6.1] at this; omega
    refine qA (qD (v := .slice _ _ _) rfl) ?_
    have el6' := el6
    refine xp_cutB [65, 66, 67, 68, 69, 70, 71, 72, 73, 74] 5 (α := List HeardP × List (List Value) × Option (Nat × Obj)) (fun ⟨ho, co, pp⟩ => []) (fun ⟨ho, co, pp⟩ L => L.set 4 (pp)) (fun ⟨ho, co, pp⟩ h_ho => ho.length = hs.length ∧ (∀ x ∈ ho, SmlX x) ∧ AccR 31 3 (co.flatMap id) ⟨pp, a6.A, a6.n, a6.c⟩ ∧ Els h_ho TU ho co ∧ ∀ x ∈ co, x.length = 3) ?_ ?_
    ·skip
     refine qE ?_
     refine qB rfl ?_
     refine qA (qC (v := .slice _ _ _) rfl) ?_
     refine qA (wK rfl rfl) ?_
     refine qA (qN (v := .bool _) rfl) ?_
     refine qU rfl (fun hp => ?_) (fun hp => ?_)
     ·skip
      have hpos : 0 < hs.length := by have := of_decide_eq_true hp; omega
      have hcne : cs6.flatMap id ≠ [] := fun e => by
       have := wN (enc := id) (m := 3) ln6
       rw [e, el6.1] at this
       simp at this
       omega
      obtain ⟨bq, len, cap, junk, hlen, hcap, rfl⟩ := acc_some ha6 hcne
      have hn6' : len = hs.length := hn6
      subst hn6'
      have tb := turnI_bd z1 (hs.length : Int)
      obtain ⟨ti, hti⟩ : ∃ ti : Nat, turnI z1 (hs.length : Int) = ti := ⟨(turnI z1 hs.length).toNat, by omega⟩
      have htl : ti < hs.length := by have := tb.2 (by omega); omega
      have L0 := Turn_ok z1 (hs.length : Int) (by have := SU.1; omega)
      rw [hti] at L0
      obtain ⟨cx, hcx⟩ : ∃ cx : List Value, cx = [.slice HA0 x0.hand.buttons.length cH0, .slice HO0 x0.hand.on.length cP0, .slice HX0 x0.sounds.length cX0] := ⟨_, rfl⟩
      have hW : wrL (cs6.flatMap id ++ junk) (0 + (ti : Int).toNat * 3) cx = (cs6.set ti cx).flatMap id ++ junk := wr_row (by omega) (by rw [el6.1]; exact htl) ln6 (by rw [hcx]; rfl)
      have hle : 0 + (ti : Int).toNat * 3 + 3 ≤ (cs6.flatMap id ++ junk).length := by rw [List.length_append, hlen]; omega
      rw [hcx] at hW
      refine xp_dw [] rfl rfl rfl ?_
      refine qI (i := 0) rfl (by decide +kernel) (qC (v := .slice _ _ _) rfl) ?_
      refine qI (i := 1) rfl (by decide +kernel) (qC (v := .int .i64 _) rfl) ?_
      refine qI (i := 2) rfl (by decide +kernel) (qC (v := .slice _ _ _) rfl) ?_
      refine qI (i := 3) rfl (by decide +kernel) (wK rfl rfl) ?_
      refine wH (i := 5) rfl (by decide +kernel) ?_
      refine qY 1 (vs := [.slice _ _ _, .slice _ _ _, .slice _ _ _]) rfl rfl rfl rfl rfl ?_
      refine dw_eff (i := 4) rfl (by decide +kernel) ?_
      refine wJ (caps := []) (vs := [.int .i64 _, .int .i64 _]) rfl rfl rfl (L0 h6) ?_
      rintro _ h7 E7 rfl
      refine ⟨ext_wlm E7 _, ?_⟩
      refine qI (i := 6) rfl (by decide +kernel) (pv_index (m := 3) rfl rfl rfl rfl (by omega) (by omega)) ?_
      refine zA (i := 7) rfl (by decide +kernel) (by decide +kernel) ?_
      refine wI 4 (m := 3) (v := .agg #[_, _, _]) (vs := [_, _, _]) (c' := (cs6.set ti [.slice HA0 x0.hand.buttons.length cH0, .slice HO0 x0.hand.on.length cP0, .slice HX0 x0.sounds.length cX0]).flatMap id ++ junk) rfl rfl rfl rfl rfl rfl (Nat.ble_eq_true_of_le hle) rfl hW ?_
      refine wY [_, _, _, _, _] rfl ?_
      refine zN rfl ?_
      refine ⟨(hs.set ti x0, cs6.set ti [.slice HA0 x0.hand.buttons.length cH0, .slice HO0 x0.hand.on.length cP0, .slice HX0 x0.sounds.length cX0], some (bq, .cells ((cs6.set ti [.slice HA0 x0.hand.buttons.length cH0, .slice HO0 x0.hand.on.length cP0, .slice HX0 x0.sounds.length cX0]).flatMap id ++ junk).toArray 31 (0, 0))), trivial, rfl, rfl, E7, fun h3 E3 => ⟨List.length_set .., set_mem SU.2 SX0, .inr ⟨bq, hs.length, cap, junk, by rw [wN (enc := id) (m := 3) (set_mem ln6 rfl), List.length_set, el6.1], rfl, rfl, by rw [List.length_append, wN (enc := id) (m := 3) (set_mem ln6 rfl), List.length_set]; rw [List.length_append, wN (enc := id) (m := 3) ln6] at hcap; exact hcap⟩, Els.set ((el6.ext TU.mono E7).ext TU.mono E3) (tu_of ((RH0.ext (zT (zT (zT (zT (zT (zT (zT G0 G1) E1) E2) E4) E5) E6) E7)).ext E3) ((RX0.ext (zT (zT (zT (zT (zT (zT (zT G0 G1) E1) E2) E4) E5) E6) E7)).ext E3)), set_mem ln6 rfl⟩, ?_⟩
      repeat (first | exact zR _ _ | exact qW _ _ _ | refine wD (by decide) ?_ | refine qV rfl ?_ | refine wE rfl ?_)
     ·skip
      refine qR ?_
      refine ⟨(hs, cs6, a6.p), trivial, rfl, rfl, (Ext.refl _), fun h3 E3 => ⟨rfl, SU.2, ha6, (el6.ext TU.mono (Ext.refl _)).ext TU.mono E3, ln6⟩, ?_⟩
      repeat (first | exact zR _ _ | exact qW _ _ _ | refine wD (by decide) ?_ | refine qV rfl ?_ | refine wE rfl ?_)
    ·rintro ⟨ho, co, pp⟩ T1 h_ho E_ho J_ho
     refine qT [_, _, _, _, _] rfl ?_
     obtain ⟨lo, so, Ao, Eo, no⟩ := J_ho
     have SUo : SmlU ho := ⟨by have := SU.1; omega, so⟩
     refine goes_pubO 4 rfl ?_
     intro gO GO PO
     refine qT [_, _, _, _, _] rfl ?_
     have RO : Row gO 3 id a6.A co := ⟨no, AccR.rd (a := ⟨pp, a6.A, a6.n, a6.c⟩) Ao PO⟩
     rw [hn6]
     refine qE ?_
     refine qB rfl ?_
     refine qY 0 (vs := [.int .i64 _, .int .i64 _, .int .i64 _, .int .i64 _, .int .i64 _, .slice _ _ _, .slice _ _ _, .slice _ _ _, .slice _ _ _]) rfl rfl rfl rfl rfl ?_
     refine qY 3 (vs := [.int .i64 _, .int .i64 _, .int .i64 _, .int .i64 _, .int .i64 _, .slice _ _ _, .slice _ _ _, .slice _ _ _, .slice _ _ _]) rfl rfl rfl rfl rfl ?_
     refine qY 3 (vs := [.int .i64 _, .int .i64 _, .int .i64 _, .int .i64 _, .int .i64 _, .slice _ _ _, .slice _ _ _, .slice _ _ _, .slice _ _ _]) rfl rfl rfl rfl rfl ?_
     refine qY 3 (vs := [.int .i64 _, .int .i64 _, .int .i64 _, .int .i64 _, .int .i64 _, .slice _ _ _, .slice _ _ _, .slice _ _ _, .slice _ _ _]) rfl rfl rfl rfl rfl ?_
     refine op_buildSliceR (zc := [_, _, _, _, _, _, _, _, _]) [[.int .i64 _, .int .i64 _, .int .i64 _, .int .i64 _, .int .i64 _, .slice _ _ _, .slice _ _ _, .slice _ _ _, .slice _ _ _], [.int .i64 _, .int .i64 _, .int .i64 _, .int .i64 _, .int .i64 _, .slice _ _ _, .slice _ _ _, .slice _ _ _, .slice _ _ _], [.int .i64 _, .int .i64 _, .int .i64 _, .int .i64 _, .int .i64 _, .slice _ _ _, .slice _ _ _, .slice _ _ _, .slice _ _ _], [.int .i64 _, .int .i64 _, .int .i64 _, .int .i64 _, .int .i64 _, .slice _ _ _, .slice _ _ _, .slice _ _ _, .slice _ _ _]] rfl rfl rfl rfl rfl rfl rfl rfl fun b79 hb79 => ?_
     refine qL [_, _, _, _, _, _] rfl ?_
     refine qA (qC (v := .slice _ _ _) rfl) ?_
     refine qA (qC (v := .slice _ _ _) rfl) ?_
     refine qA (qC (v := .slice _ _ _) rfl) ?_
     refine qA (qC (v := .slice _ _ _) rfl) ?_
     refine wA (zc := [_]) (vs := [(0, .slice _ _ _), (1, .slice _ _ _), (2, .slice _ _ _), (3, .slice _ _ _)]) (cs := [_, _, _, _]) rfl rfl rfl rfl rfl rfl rfl fun b84 hb84 => ?_
     refine qL [_, _, _, _, _, _, _] rfl ?_
     refine qA (qD (v := .slice _ _ _) rfl) ?_
     refine qA (qD (v := .slice _ _ _) rfl) ?_
     refine qE ?_
     refine qE ?_
     refine qB rfl ?_
     refine qA (qD (v := .int .i64 _) rfl) ?_
     refine qQ ?_
     refine goes_pub 5 rfl ?_
     intro g7 G7 P7
     refine goes_pub 6 rfl ?_
     intro g8 G8 P8
     obtain ⟨ms, hms⟩ : ∃ x : List MachP, x = [m0, m, m, m] := ⟨_, rfl⟩
     obtain ⟨ls', hls'⟩ : ∃ x : List (List HeardP), x = [hs0, hs, ho, hs0] := ⟨_, rfl⟩
     have hml : ms.length = 4 := by rw [hms]; rfl
     have hll : ls'.length = 4 := by rw [hls']; rfl
     have hmS : ∀ x ∈ ms, Sml x := by rw [hms]; exact all4 S0 Md.sml Md.sml Md.sml
     have hlS : ∀ x ∈ ls', SmlU x := by rw [hls']; exact all4 SU0 SU SUo SU0
     have R6 := row_of_block (enc := id) (m := 9) (l := [machC AB0 AQ0 AL0 AW0 cB0 cQ0 cL0 cW0 m0, machC AB AQ AL AW cB cQ cL cW m, machC AB AQ AL AW cB cQ cL cW m, machC AB AQ AL AW cB cQ cL cW m]) (all4 rfl rfl rfl rfl) P7
     have R7 := row_of_block (enc := id) (m := 1) (l := [[.slice UA0 hs0.length cU0], [.slice A5 hs.length c5], [.slice a6.A hs.length a6.c], [.slice UA0 hs0.length cU0]]) (all4 rfl rfl rfl rfl) P8
     have EL6 : Els g8 TMa ms [machC AB0 AQ0 AL0 AW0 cB0 cQ0 cL0 cW0 m0, machC AB AQ AL AW cB cQ cL cW m, machC AB AQ AL AW cB cQ cL cW m, machC AB AQ AL AW cB cQ cL cW m] := by
      rw [hms]
      exact els4 ⟨_, _, _, _, _, _, _, _, rfl, RM0.ext (zT (zT (zT (zT (zT (zT (zT (zT (zT (zT G0 G1) E1) E2) E4) E5) E6) E_ho) GO) G7) G8), u1, u2⟩ ⟨_, _, _, _, _, _, _, _, rfl, RM.ext (zT (zT (zT (zT (zT (zT E4 E5) E6) E_ho) GO) G7) G8), hcQ, hcL⟩ ⟨_, _, _, _, _, _, _, _, rfl, RM.ext (zT (zT (zT (zT (zT (zT E4 E5) E6) E_ho) GO) G7) G8), hcQ, hcL⟩ ⟨_, _, _, _, _, _, _, _, rfl, RM.ext (zT (zT (zT (zT (zT (zT E4 E5) E6) E_ho) GO) G7) G8), hcQ, hcL⟩
     have EL7 : Els g8 TLU ls' [[.slice UA0 hs0.length cU0], [.slice A5 hs.length c5], [.slice a6.A hs.length a6.c], [.slice UA0 hs0.length cU0]] := by
      rw [hls']
      exact els4 ⟨_, _, _, rfl, RU0.ext (zT (zT (zT (zT (zT (zT (zT (zT (zT (zT G0 G1) E1) E2) E4) E5) E6) E_ho) GO) G7) G8), EU0.ext TU.mono (zT (zT (zT (zT (zT (zT (zT (zT (zT (zT G0 G1) E1) E2) E4) E5) E6) E_ho) GO) G7) G8)⟩ ⟨_, _, _, rfl, R5.ext (zT (zT (zT (zT E6 E_ho) GO) G7) G8), EL5.ext TU.mono (zT (zT (zT (zT E6 E_ho) GO) G7) G8)⟩ ⟨_, _, _, by rw [lo], RO.ext (zT G7 G8), Eo.ext TU.mono (zT (zT GO G7) G8)⟩ ⟨_, _, _, rfl, RU0.ext (zT (zT (zT (zT (zT (zT (zT (zT (zT (zT G0 G1) E1) E2) E4) E5) E6) E_ho) GO) G7) G8), EU0.ext TU.mono (zT (zT (zT (zT (zT (zT (zT (zT (zT (zT G0 G1) E1) E2) E4) E5) E6) E_ho) GO) G7) G8)⟩
     generalize [machC AB0 AQ0 AL0 AW0 cB0 cQ0 cL0 cW0 m0, machC AB AQ AL AW cB cQ cL cW m, machC AB AQ AL AW cB cQ cL cW m, machC AB AQ AL AW cB cQ cL cW m] = cs6 at R6 EL6
     generalize [[Value.slice UA0 hs0.length cU0], [.slice A5 hs.length c5], [.slice a6.A hs.length a6.c], [.slice UA0 hs0.length cU0]] = cs7 at R7 EL7
     refine zP [10, 17, 18, 19, 20, 21, 22, 23, 24, 25, 26, 27, 28, 29, 30, 31, 32, 33, 34, 35, 36, 37, 85, 86, 87, 88, 89, 90, 91, 92, 93, 94, 95, 96, 97, 98, 99, 100, 101, 102, 103, 104, 105, 106, 107, 108, 109, 110, 111, 112, 113, 114, 115, 116, 117, 118, 119, 120, 121, 122, 123, 124, 125, 126, 127, 128, 129, 130, 131, 132, 133, 134, 135, 136, 137, 138, 139, 140, 141, 142, 143, 144, 145, 146, 147, 148, 149, 150, 151, 152, 153, 154, 155, 156, 157, 158, 159, 160, 161, 162, 163, 164, 165, 166, 167, 168, 169, 170, 171, 172, 173, 174, 175, 176, 177, 178, 179, 180, 181, 182, 183, 184, 185, 186, 187, 188, 189, 190, 191, 192, 193, 194, 195, 196, 197, 198, 199, 200, 201, 202, 203, 204, 205, 206, 207, 208, 209, 210, 211, 212, 213, 214, 215, 216, 217, 218, 219, 220, 221, 222, 223, 224, 225, 226, 227, 228, 229, 230, 231, 232, 233, 234, 235, 236, 237, 238, 239] 7 (α := Nat) (fun i => [(17, .int .i64 i)]) (fun i => _) (fun i h_i => i ≤ 4) (fun i => 4 - i) (0) ⟨rfl, trivial⟩ (rfl) (Nat.zero_le _) ?_
     rintro i T2 h_i E_i J_i
     refine qT [_, _, _, _, _, _, _] rfl ?_
     refine qE ?_
     refine qE ?_
     refine qB rfl ?_
     refine qA (qC (v := .int .i64 _) rfl) ?_
     refine qA (qC (v := .slice _ _ _) rfl) ?_
     refine qA (wK rfl rfl) ?_
     refine qA (qN (v := .bool _) rfl) ?_
     refine qU rfl (fun hi => ?_) (fun hi => ?_)
     ·skip
      have hil : i < 4 := by have := of_decide_eq_true hi; omega
      have him : i < ms.length := by omega
      have hiu : i < ls'.length := by omega
      have SM := hmS _ (List.getElem_mem him)
      have Su := hlS _ (List.getElem_mem hiu)
      have SMw := SM.w
      obtain ⟨hic, xB, xQ, xL, xW, yB, yQ, yL, yW, e6, RMi, hq1, hq2⟩ := (EL6.ext TMa.mono E_i).at him
      obtain ⟨hid, xU, yU, xs, e7, RUi, EUi⟩ := (EL7.ext TLU.mono E_i).at hiu
      obtain ⟨gM, oM, hA, hcM⟩ := (R6.ext (zT G8 E_i)).at (by omega) hic
      obtain ⟨gU, oU, hU, hcU⟩ := (R7.ext E_i).at (by omega) hid
      have hcM : Cells h_i gM (oM + i * 9) (machC xB xQ xL xW yB yQ yL yW ms[i]) := by rw [← e6]; exact hcM
      have hcU : Cells h_i gU (oU + i * 1) [.slice xU ls'[i].length yU] := by rw [← e7]; exact hcU
      generalize ms[i] = mi at *
      generalize ls'[i] = li at *
      refine qR ?_
      refine qE ?_
      refine qQ ?_
      refine qE ?_
      refine xp_dw [] rfl rfl rfl ?_
      refine qI (i := 0) rfl (by decide +kernel) (qC (v := .slice _ _ _) rfl) ?_
      refine qI (i := 1) rfl (by decide +kernel) (qC (v := .int .i64 _) rfl) ?_
      refine qI (i := 2) rfl (by decide +kernel) (wG (m := 9) rfl hA rfl rfl rfl (by omega) (by omega)) ?_
      refine wH (i := 3) rfl (by decide +kernel) ?_
      refine zK rfl rfl rfl rfl (hcM.ext (Ext.refl _)) ?_
      refine qI (i := 5) rfl (by decide +kernel) (qC (v := .slice _ _ _) rfl) ?_
      refine qI (i := 6) rfl (by decide +kernel) (qC (v := .int .i64 _) rfl) ?_
      refine qI (i := 7) rfl (by decide +kernel) (wG (m := 1) rfl hU rfl rfl rfl (by omega) (by omega)) ?_
      refine wH (i := 8) rfl (by decide +kernel) ?_
      refine wS (v := .slice _ _ _) rfl rfl (((hcU.ext (Ext.refl _))) 0 _ rfl) ?_
      refine dw_eff (i := 4) rfl (by decide +kernel) ?_
      refine wJ (caps := []) (vs := [.agg _]) rfl rfl rfl (CopyMachine_ok mi SM xB xQ xL xW yB yQ yL yW h_i (RMi.ext (Ext.refl _))) ?_
      rintro _ k1 F1 ⟨zB, zQ, zL, zW, wB, wQ, wL, wW, rfl, RMo⟩
      refine ⟨ext_wlm F1 _, ?_⟩
      refine zA (i := 9) rfl (by decide +kernel) (by decide +kernel) ?_
      refine wJ (caps := []) (vs := [.slice _ _ _]) rfl rfl rfl (CopyHeard_ok li Su.cp.1 Su.cp.2 xU yU xs k1 (RUi.ext F1) (EUi.ext TU.mono F1)) ?_
      rintro _ k2 F2 SUo2
      obtain ⟨zs, zU, wU, rfl, RUo, EUo⟩ := SlX.els SUo2
      refine dw_eff (i := 10) rfl (by decide +kernel) ?_
      refine zF (cs := [_, _, _, _, _, _, _, _, _]) rfl rfl fun b18 hb18 => ?_
      refine ⟨ext_new hb18 _, ?_⟩
      refine wY [_, _, _, _, _, _, _, _] rfl ?_
      refine zA (i := 11) rfl (by decide +kernel) (by decide +kernel) ?_
      refine wI 7 (v := .agg #[.int .i64 _, .int .i64 _, .int .i64 _, .int .i64 _, .int .i64 _, .slice _ _ _, .slice _ _ _, .slice _ _ _, .slice _ _ _]) (vs := [_, _, _, _, _, _, _, _, _]) (c' := [_, _, _, _, _, _, _, _, _]) rfl rfl rfl rfl rfl rfl rfl rfl rfl ?_
      refine wY [_, _, _, _, _, _, _, _] rfl ?_
      refine qI (i := 12) rfl (by decide +kernel) (qD (v := .slice _ _ _) rfl) ?_
      refine zN rfl ?_
      refine qE ?_
      refine qB rfl ?_
      refine qY 7 (vs := [.int .i64 _, .int .i64 _, .int .i64 _, .int .i64 _, .int .i64 _, .slice _ _ _, .slice _ _ _, .slice _ _ _, .slice _ _ _]) rfl rfl rfl rfl rfl ?_
      refine qA (qC (v := .slice _ _ _) rfl) ?_
      refine wJ (caps := []) (vs := [.agg _, .slice _ _ _]) rfl rfl rfl (Suspects_ok rfl mi li Su.hlen zB zQ zL zW zU wB wQ wL wW wU zs k2 (RMo.ext F2) (by omega) (RUo.ext (Ext.refl _)) (EUo.ext TU.mono (Ext.refl _))) ?_
      rintro _ k3 F3 ⟨_, rfl, D3, d3, rfl, RS3⟩
      refine qA (qC (v := .tuple #[.slice _ _ _, .int .i64 _]) rfl) ?_
      refine qA (qN (v := .slice _ _ _) rfl) ?_
      refine qA (qN (v := .int .i64 _) rfl) ?_
      refine qA (qD (v := .slice _ _ _) rfl) ?_
      refine qA (qD (v := .int .i64 _) rfl) ?_
      refine qE ?_
      refine xp_dw [] rfl rfl rfl ?_
      refine qI (i := 0) rfl (by decide +kernel) (qC (v := .slice _ _ _) rfl) ?_
      refine qI (i := 1) rfl (by decide +kernel) (qC (v := .int .i64 _) rfl) ?_
      refine qI (i := 2) rfl (by decide +kernel) (wG (m := 9) rfl hA rfl rfl rfl (by omega) (by omega)) ?_
      refine wH (i := 3) rfl (by decide +kernel) ?_
      refine zK rfl rfl rfl rfl (hcM.ext (zT (zT F1 F2) F3)) ?_
      refine qI (i := 4) rfl (by decide +kernel) (qC (v := .slice _ _ _) rfl) ?_
      refine qI (i := 5) rfl (by decide +kernel) (qC (v := .int .i64 _) rfl) ?_
      refine qI (i := 6) rfl (by decide +kernel) (wG (m := 1) rfl hU rfl rfl rfl (by omega) (by omega)) ?_
      refine wH (i := 7) rfl (by decide +kernel) ?_
      refine wS (v := .slice _ _ _) rfl rfl (((hcU.ext (zT (zT F1 F2) F3))) 0 _ rfl) ?_
      refine zA (i := 8) rfl (by decide +kernel) (by decide +kernel) ?_
      refine wJ (caps := []) (vs := [.agg _, .slice _ _ _]) rfl rfl rfl (SuspectsG_ok mi SM li Su.hlen xB xQ xL xW xU yB yQ yL yW yU hq1 hq2 xs k3 (RMi.ext (zT (zT F1 F2) F3)) (RUi.ext (zT (zT F1 F2) F3)) (EUi.ext TU.mono (zT (zT F1 F2) F3))) ?_
      rintro _ k4 F4 ⟨_, rfl, D4, d4, rfl, RS4⟩
      refine qI (i := 9) rfl (by decide +kernel) (qC (v := .tuple #[.slice _ _ _, .int .i64 _]) rfl) ?_
      refine qI (i := 10) rfl (by decide +kernel) (qN (v := .slice _ _ _) rfl) ?_
      refine qI (i := 11) rfl (by decide +kernel) (qN (v := .int .i64 _) rfl) ?_
      refine qI (i := 12) rfl (by decide +kernel) (qD (v := .slice _ _ _) rfl) ?_
      refine qI (i := 13) rfl (by decide +kernel) (qD (v := .int .i64 _) rfl) ?_
      refine zN rfl ?_
      refine qE ?_
      refine qB rfl ?_
      refine qY 7 (vs := [.int .i64 _, .int .i64 _, .int .i64 _, .int .i64 _, .int .i64 _, .slice _ _ _, .slice _ _ _, .slice _ _ _, .slice _ _ _]) rfl rfl rfl rfl rfl ?_
      refine qA (qC (v := .slice _ _ _) rfl) ?_
      refine wJ (caps := []) (vs := [.agg _, .slice _ _ _]) rfl rfl rfl (FewestA_ok rfl mi li Su.hlen zB zQ zL zW zU wB wQ wL wW wU zs k4 (RMo.ext (zT (zT F2 F3) F4)) (by omega) (RUo.ext (zT F3 F4)) (EUo.ext TU.mono (zT F3 F4))) ?_
      rintro _ k5 F5 ⟨_, rfl, D5, d5, rfl, RS5⟩
      refine qA (qC (v := .tuple #[.slice _ _ _, .int .i64 _]) rfl) ?_
      refine qA (qN (v := .slice _ _ _) rfl) ?_
      refine qA (qN (v := .int .i64 _) rfl) ?_
      refine qA (qD (v := .slice _ _ _) rfl) ?_
      refine qA (qD (v := .int .i64 _) rfl) ?_
      refine qE ?_
      refine xp_dw [] rfl rfl rfl ?_
      refine qI (i := 0) rfl (by decide +kernel) (qC (v := .slice _ _ _) rfl) ?_
      refine qI (i := 1) rfl (by decide +kernel) (qC (v := .int .i64 _) rfl) ?_
      refine qI (i := 2) rfl (by decide +kernel) (wG (m := 9) rfl hA rfl rfl rfl (by omega) (by omega)) ?_
      refine wH (i := 3) rfl (by decide +kernel) ?_
      refine zK rfl rfl rfl rfl (hcM.ext (zT (zT (zT (zT F1 F2) F3) F4) F5)) ?_
      refine qI (i := 4) rfl (by decide +kernel) (qC (v := .slice _ _ _) rfl) ?_
      refine qI (i := 5) rfl (by decide +kernel) (qC (v := .int .i64 _) rfl) ?_
      refine qI (i := 6) rfl (by decide +kernel) (wG (m := 1) rfl hU rfl rfl rfl (by omega) (by omega)) ?_
      refine wH (i := 7) rfl (by decide +kernel) ?_
      refine wS (v := .slice _ _ _) rfl rfl (((hcU.ext (zT (zT (zT (zT F1 F2) F3) F4) F5))) 0 _ rfl) ?_
      refine zA (i := 8) rfl (by decide +kernel) (by decide +kernel) ?_
      refine wJ (caps := []) (vs := [.agg _, .slice _ _ _]) rfl rfl rfl (FewestG_ok mi SM li Su.hlen xB xQ xL xW xU yB yQ yL yW yU hq1 hq2 xs k5 (RMi.ext (zT (zT (zT (zT F1 F2) F3) F4) F5)) (RUi.ext (zT (zT (zT (zT F1 F2) F3) F4) F5)) (EUi.ext TU.mono (zT (zT (zT (zT F1 F2) F3) F4) F5))) ?_
      rintro _ k6 F6 ⟨_, rfl, D6, d6, rfl, RS6⟩
      refine qI (i := 9) rfl (by decide +kernel) (qC (v := .tuple #[.slice _ _ _, .int .i64 _]) rfl) ?_
      refine qI (i := 10) rfl (by decide +kernel) (qN (v := .slice _ _ _) rfl) ?_
      refine qI (i := 11) rfl (by decide +kernel) (qN (v := .int .i64 _) rfl) ?_
      refine qI (i := 12) rfl (by decide +kernel) (qD (v := .slice _ _ _) rfl) ?_
      refine qI (i := 13) rfl (by decide +kernel) (qD (v := .int .i64 _) rfl) ?_
      refine zN rfl ?_
      refine qE ?_
      refine qB rfl ?_
      refine qY 7 (vs := [.int .i64 _, .int .i64 _, .int .i64 _, .int .i64 _, .int .i64 _, .slice _ _ _, .slice _ _ _, .slice _ _ _, .slice _ _ _]) rfl rfl rfl rfl rfl ?_
      refine qA (qC (v := .slice _ _ _) rfl) ?_
      refine wJ (caps := []) (vs := [.agg _, .slice _ _ _]) rfl rfl rfl (BlameA_ok rfl mi li Su.hlen zB zQ zL zW zU wB wQ wL wW wU zs k6 (RMo.ext (zT (zT (zT (zT F2 F3) F4) F5) F6)) (by omega) (RUo.ext (zT (zT (zT F3 F4) F5) F6)) (EUo.ext TU.mono (zT (zT (zT F3 F4) F5) F6))) ?_
      rintro _ k7 F7 ⟨_, rfl, D7, d7, rfl, RS7⟩
      refine qA (qC (v := .tuple #[.slice _ _ _, .int .i64 _]) rfl) ?_
      refine qA (qN (v := .slice _ _ _) rfl) ?_
      refine qA (qN (v := .int .i64 _) rfl) ?_
      refine qA (qD (v := .slice _ _ _) rfl) ?_
      refine qA (qD (v := .int .i64 _) rfl) ?_
      refine qE ?_
      refine xp_dw [] rfl rfl rfl ?_
      refine qI (i := 0) rfl (by decide +kernel) (qC (v := .slice _ _ _) rfl) ?_
      refine qI (i := 1) rfl (by decide +kernel) (qC (v := .int .i64 _) rfl) ?_
      refine qI (i := 2) rfl (by decide +kernel) (wG (m := 9) rfl hA rfl rfl rfl (by omega) (by omega)) ?_
      refine wH (i := 3) rfl (by decide +kernel) ?_
      refine zK rfl rfl rfl rfl (hcM.ext (zT (zT (zT (zT (zT (zT F1 F2) F3) F4) F5) F6) F7)) ?_
      refine qI (i := 4) rfl (by decide +kernel) (qC (v := .slice _ _ _) rfl) ?_
      refine qI (i := 5) rfl (by decide +kernel) (qC (v := .int .i64 _) rfl) ?_
      refine qI (i := 6) rfl (by decide +kernel) (wG (m := 1) rfl hU rfl rfl rfl (by omega) (by omega)) ?_
      refine wH (i := 7) rfl (by decide +kernel) ?_
      refine wS (v := .slice _ _ _) rfl rfl (((hcU.ext (zT (zT (zT (zT (zT (zT F1 F2) F3) F4) F5) F6) F7))) 0 _ rfl) ?_
      refine zA (i := 8) rfl (by decide +kernel) (by decide +kernel) ?_
      refine wJ (caps := []) (vs := [.agg _, .slice _ _ _]) rfl rfl rfl (BlameG_ok mi SM li Su.hlen xB xQ xL xW xU yB yQ yL yW yU hq1 hq2 xs k7 (RMi.ext (zT (zT (zT (zT (zT (zT F1 F2) F3) F4) F5) F6) F7)) (RUi.ext (zT (zT (zT (zT (zT (zT F1 F2) F3) F4) F5) F6) F7)) (EUi.ext TU.mono (zT (zT (zT (zT (zT (zT F1 F2) F3) F4) F5) F6) F7))) ?_
      rintro _ k8 F8 ⟨_, rfl, D8, d8, rfl, RS8⟩
      refine qI (i := 9) rfl (by decide +kernel) (qC (v := .tuple #[.slice _ _ _, .int .i64 _]) rfl) ?_
      refine qI (i := 10) rfl (by decide +kernel) (qN (v := .slice _ _ _) rfl) ?_
      refine qI (i := 11) rfl (by decide +kernel) (qN (v := .int .i64 _) rfl) ?_
      refine qI (i := 12) rfl (by decide +kernel) (qD (v := .slice _ _ _) rfl) ?_
      refine qI (i := 13) rfl (by decide +kernel) (qD (v := .int .i64 _) rfl) ?_
      refine zN rfl ?_
      refine qE ?_
      refine qB rfl ?_
      refine qY 7 (vs := [.int .i64 _, .int .i64 _, .int .i64 _, .int .i64 _, .int .i64 _, .slice _ _ _, .slice _ _ _, .slice _ _ _, .slice _ _ _]) rfl rfl rfl rfl rfl ?_
      refine qA (qC (v := .slice _ _ _) rfl) ?_
      refine wJ (caps := []) (vs := [.agg _, .slice _ _ _]) rfl rfl rfl (Test_ok rfl mi li Su.hlen zB zQ zL zW zU wB wQ wL wW wU zs k8 (RMo.ext (zT (zT (zT (zT (zT (zT F2 F3) F4) F5) F6) F7) F8)) (by omega) (RUo.ext (zT (zT (zT (zT (zT F3 F4) F5) F6) F7) F8)) (EUo.ext TU.mono (zT (zT (zT (zT (zT F3 F4) F5) F6) F7) F8))) ?_
      rintro _ k9 F9 ⟨_, rfl, VH9⟩
      obtain ⟨qH, qO, pH, pO, rfl, RH9⟩ := VH9.open
      refine qA (qC (v := .tuple #[.agg #[.slice _ _ _, .slice _ _ _], .int .i64 _, .int .i64 _]) rfl) ?_
      refine qA (qN (v := .agg #[.slice _ _ _, .slice _ _ _]) rfl) ?_
      refine qA (qN (v := .int .i64 _) rfl) ?_
      refine qA (qN (v := .int .i64 _) rfl) ?_
      refine zF (cs := [_, _]) rfl rfl fun b32 hb32 => ?_
      refine qL [_, _, _, _, _, _, _, _, _] rfl ?_
      refine wI 8 (v := .agg #[.slice _ _ _, .slice _ _ _]) (vs := [_, _]) (c' := [_, _]) rfl rfl rfl rfl rfl rfl rfl rfl rfl ?_
      refine qL [_, _, _, _, _, _, _, _, _] rfl ?_
      refine qA (qD (v := .int .i64 _) rfl) ?_
      refine qA (qD (v := .int .i64 _) rfl) ?_
      refine qE ?_
      refine xp_dw [] rfl rfl rfl ?_
      refine qI (i := 0) rfl (by decide +kernel) (qC (v := .slice _ _ _) rfl) ?_
      refine qI (i := 1) rfl (by decide +kernel) (qC (v := .int .i64 _) rfl) ?_
      refine qI (i := 2) rfl (by decide +kernel) (wG (m := 9) rfl hA rfl rfl rfl (by omega) (by omega)) ?_
      refine wH (i := 3) rfl (by decide +kernel) ?_
      refine zK rfl rfl rfl rfl (hcM.ext (zT (zT (zT (zT (zT (zT (zT (zT F1 F2) F3) F4) F5) F6) F7) F8) F9)) ?_
      refine qI (i := 4) rfl (by decide +kernel) (qC (v := .slice _ _ _) rfl) ?_
      refine qI (i := 5) rfl (by decide +kernel) (qC (v := .int .i64 _) rfl) ?_
      refine qI (i := 6) rfl (by decide +kernel) (wG (m := 1) rfl hU rfl rfl rfl (by omega) (by omega)) ?_
      refine wH (i := 7) rfl (by decide +kernel) ?_
      refine wS (v := .slice _ _ _) rfl rfl (((hcU.ext (zT (zT (zT (zT (zT (zT (zT (zT F1 F2) F3) F4) F5) F6) F7) F8) F9))) 0 _ rfl) ?_
      refine zA (i := 8) rfl (by decide +kernel) (by decide +kernel) ?_
      refine wJ (caps := []) (vs := [.agg _, .slice _ _ _]) rfl rfl rfl (TestG_ok mi SM li Su.hlen xB xQ xL xW xU yB yQ yL yW yU hq1 hq2 xs k9 (RMi.ext (zT (zT (zT (zT (zT (zT (zT (zT F1 F2) F3) F4) F5) F6) F7) F8) F9)) (RUi.ext (zT (zT (zT (zT (zT (zT (zT (zT F1 F2) F3) F4) F5) F6) F7) F8) F9)) (EUi.ext TU.mono (zT (zT (zT (zT (zT (zT (zT (zT F1 F2) F3) F4) F5) F6) F7) F8) F9))) ?_
      rintro _ k10 F10 ⟨_, rfl, VH10⟩
      obtain ⟨sH, sO, tH, tO, rfl, RH10⟩ := VH10.open
      have n1 : (suspE mi li != suspE mi li) = false := by simp
      have n2 : (fewE mi li != fewE mi li) = false := by simp
      have n3 : (testE mi li != testE mi li) = false := by simp
      have n4 : (testN mi li != testN mi li) = false := by simp
      have tS := test_sml mi li
      have ts1 := tS.b
      have ts2 := tS.o
      refine qI (i := 9) rfl (by decide +kernel) (qC (v := .tuple #[.agg #[.slice _ _ _, .slice _ _ _], .int .i64 _, .int .i64 _]) rfl) ?_
      refine qI (i := 10) rfl (by decide +kernel) (qN (v := .agg #[.slice _ _ _, .slice _ _ _]) rfl) ?_
      refine qI (i := 11) rfl (by decide +kernel) (qN (v := .int .i64 _) rfl) ?_
      refine qI (i := 12) rfl (by decide +kernel) (qN (v := .int .i64 _) rfl) ?_
      refine dw_eff (i := 13) rfl (by decide +kernel) ?_
      refine zF (cs := [_, _]) rfl rfl fun b35 hb35 => ?_
      refine ⟨ext_new hb35 _, ?_⟩
      refine wY [_, _, _, _, _, _, _, _, _, _] rfl ?_
      refine zA (i := 14) rfl (by decide +kernel) (by decide +kernel) ?_
      refine wI 9 (v := .agg #[.slice _ _ _, .slice _ _ _]) (vs := [_, _]) (c' := [_, _]) rfl rfl rfl rfl rfl rfl rfl rfl rfl ?_
      refine wY [_, _, _, _, _, _, _, _, _, _] rfl ?_
      refine qI (i := 15) rfl (by decide +kernel) (qD (v := .int .i64 _) rfl) ?_
      refine qI (i := 16) rfl (by decide +kernel) (qD (v := .int .i64 _) rfl) ?_
      refine zN rfl ?_
      refine qE ?_
      refine xp_dw [] rfl rfl rfl ?_
      refine qI (i := 0) rfl (by decide +kernel) (qC (v := .int .i64 _) rfl) ?_
      refine qI (i := 1) rfl (by decide +kernel) (qC (v := .int .i64 _) rfl) ?_
      refine qI (i := 2) rfl (by decide +kernel) (qN (v := .bool _) rfl) ?_
      refine qI (i := 3) rfl (by decide +kernel) (qC (v := .bool _) rfl) ?_
      refine zC (i := 4) rfl (by decide +kernel) rfl n1 (qC (v := .int .i64 _) rfl) ?_
      refine zC (i := 5) rfl (by decide +kernel) rfl n1 (qC (v := .int .i64 _) rfl) ?_
      refine zC (i := 6) rfl (by decide +kernel) rfl n1 (qN (v := .bool _) rfl) ?_
      refine qI (i := 7) rfl (by decide +kernel) (wT rfl n1 (v := .bool _) rfl) ?_
      refine qI (i := 8) rfl (by decide +kernel) (qC (v := .bool _) rfl) ?_
      refine zC (i := 9) rfl (by decide +kernel) rfl n2 (qC (v := .int .i64 _) rfl) ?_
      refine zC (i := 10) rfl (by decide +kernel) rfl n2 (qC (v := .int .i64 _) rfl) ?_
      refine zC (i := 11) rfl (by decide +kernel) rfl n2 (qN (v := .bool _) rfl) ?_
      refine qI (i := 12) rfl (by decide +kernel) (wT rfl n2 (v := .bool _) rfl) ?_
      refine qI (i := 13) rfl (by decide +kernel) (qC (v := .bool _) rfl) ?_
      refine zC (i := 14) rfl (by decide +kernel) rfl n2 (qC (v := .int .i64 _) rfl) ?_
      refine zC (i := 15) rfl (by decide +kernel) rfl n2 (qC (v := .int .i64 _) rfl) ?_
      refine zC (i := 16) rfl (by decide +kernel) rfl n2 (qN (v := .bool _) rfl) ?_
      refine qI (i := 17) rfl (by decide +kernel) (wT rfl n2 (v := .bool _) rfl) ?_
      refine qI (i := 18) rfl (by decide +kernel) (qC (v := .bool _) rfl) ?_
      refine zC (i := 19) rfl (by decide +kernel) rfl n3 (qC (v := .int .i64 _) rfl) ?_
      refine zC (i := 20) rfl (by decide +kernel) rfl n3 (qC (v := .int .i64 _) rfl) ?_
      refine zC (i := 21) rfl (by decide +kernel) rfl n3 (qN (v := .bool _) rfl) ?_
      refine qI (i := 22) rfl (by decide +kernel) (wT rfl n3 (v := .bool _) rfl) ?_
      refine qI (i := 23) rfl (by decide +kernel) (qC (v := .bool _) rfl) ?_
      refine zC (i := 24) rfl (by decide +kernel) rfl n4 (qC (v := .slice _ _ _) rfl) ?_
      refine zC (i := 25) rfl (by decide +kernel) rfl n4 (qC (v := .slice _ _ _) rfl) ?_
      refine dw_lastG (i := 26) rfl (by decide +kernel) (by decide +kernel) rfl n4 ?_
      refine wJ (caps := []) (vs := [.slice _ _ _, .slice _ _ _]) rfl rfl rfl (sameIntsS_ok (suspL mi li) _ _ _ _ k10 (RS3.ext (zT (zT (zT (zT (zT (zT F4 F5) F6) F7) F8) F9) F10)) (RS4.ext (zT (zT (zT (zT (zT F5 F6) F7) F8) F9) F10)) (susp_le mi li)) ?_
      rintro _ k11 F11 rfl
      refine zC (i := 27) rfl (by decide +kernel) rfl n4 (qN (v := .bool _) rfl) ?_
      refine qI (i := 28) rfl (by decide +kernel) (wT rfl n4 (v := .bool _) rfl) ?_
      refine qI (i := 29) rfl (by decide +kernel) (qC (v := .bool _) rfl) ?_
      refine zC (i := 30) rfl (by decide +kernel) rfl rfl (qC (v := .slice _ _ _) rfl) ?_
      refine zC (i := 31) rfl (by decide +kernel) rfl rfl (qC (v := .slice _ _ _) rfl) ?_
      refine dw_lastG (i := 32) rfl (by decide +kernel) (by decide +kernel) rfl rfl ?_
      refine wJ (caps := []) (vs := [.slice _ _ _, .slice _ _ _]) rfl rfl rfl (sameIntsS_ok (fewA mi li) _ _ _ _ k11 (RS5.ext (zT (zT (zT (zT (zT F6 F7) F8) F9) F10) F11)) (RS6.ext (zT (zT (zT (zT F7 F8) F9) F10) F11)) (fewA_le mi li)) ?_
      rintro _ k12 F12 rfl
      refine zC (i := 33) rfl (by decide +kernel) rfl rfl (qN (v := .bool _) rfl) ?_
      refine qI (i := 34) rfl (by decide +kernel) (wT rfl rfl (v := .bool _) rfl) ?_
      refine qI (i := 35) rfl (by decide +kernel) (qC (v := .bool _) rfl) ?_
      refine zC (i := 36) rfl (by decide +kernel) rfl rfl (qC (v := .slice _ _ _) rfl) ?_
      refine zC (i := 37) rfl (by decide +kernel) rfl rfl (qC (v := .slice _ _ _) rfl) ?_
      refine dw_lastG (i := 38) rfl (by decide +kernel) (by decide +kernel) rfl rfl ?_
      refine wJ (caps := []) (vs := [.slice _ _ _, .slice _ _ _]) rfl rfl rfl (sameIntsS_ok (blamA mi li) _ _ _ _ k12 (RS7.ext (zT (zT (zT (zT F8 F9) F10) F11) F12)) (RS8.ext (zT (zT (zT F9 F10) F11) F12)) (blamA_le mi li)) ?_
      rintro _ k13 F13 rfl
      refine zC (i := 39) rfl (by decide +kernel) rfl rfl (qN (v := .bool _) rfl) ?_
      refine qI (i := 40) rfl (by decide +kernel) (wT rfl rfl (v := .bool _) rfl) ?_
      refine qI (i := 41) rfl (by decide +kernel) (qC (v := .bool _) rfl) ?_
      refine dw_loadG (i := 42) rfl (by decide +kernel) rfl rfl ?_
      refine qY 8 (vs := [.slice _ _ _, .slice _ _ _]) rfl rfl rfl rfl rfl ?_
      refine dw_loadG (i := 43) rfl (by decide +kernel) rfl rfl ?_
      refine qY 9 (vs := [.slice _ _ _, .slice _ _ _]) rfl rfl rfl rfl rfl ?_
      refine dw_lastG (i := 44) rfl (by decide +kernel) (by decide +kernel) rfl rfl ?_
      refine wJ (caps := []) (vs := [.agg _, .agg _]) rfl rfl rfl (sameHandsS_ok (testA mi li) qH qO sH sO pH pO tH tO k13 (RH9.ext (zT (zT (zT F10 F11) F12) F13)) (RH10.ext (zT (zT F11 F12) F13)) (by omega) (by omega)) ?_
      rintro _ k14 F14 rfl
      refine zC (i := 45) rfl (by decide +kernel) rfl rfl (qN (v := .bool _) rfl) ?_
      refine qI (i := 46) rfl (by decide +kernel) (wT rfl rfl (v := .bool _) rfl) ?_
      refine qI (i := 47) rfl (by decide +kernel) (qC (v := .bool _) rfl) ?_
      refine dw_loadG (i := 48) rfl (by decide +kernel) rfl rfl ?_
      refine qY 7 (vs := [.int .i64 _, .int .i64 _, .int .i64 _, .int .i64 _, .int .i64 _, .slice _ _ _, .slice _ _ _, .slice _ _ _, .slice _ _ _]) rfl rfl rfl rfl rfl ?_
      refine zC (i := 49) rfl (by decide +kernel) rfl rfl (qC (v := .slice _ _ _) rfl) ?_
      refine zC (i := 50) rfl (by decide +kernel) rfl rfl (qC (v := .int .i64 _) rfl) ?_
      refine zC (i := 51) rfl (by decide +kernel) rfl rfl (wG (m := 9) rfl hA rfl rfl rfl (by omega) (by omega)) ?_
      refine dw_loadG (i := 52) rfl (by decide +kernel) rfl rfl ?_
      refine zK rfl rfl rfl rfl (hcM.ext (zT (zT (zT (zT (zT (zT (zT (zT (zT (zT (zT (zT (zT F1 F2) F3) F4) F5) F6) F7) F8) F9) F10) F11) F12) F13) F14)) ?_
      refine dw_lastG (i := 53) rfl (by decide +kernel) (by decide +kernel) rfl rfl ?_
      refine wJ (caps := []) (vs := [.agg _, .agg _]) rfl rfl rfl (SameMachines_ok mi SM zB zQ zL zW wB wQ wL wW xB xQ xL xW yB yQ yL yW k14 (RMo.ext (zT (zT (zT (zT (zT (zT (zT (zT (zT (zT (zT (zT F2 F3) F4) F5) F6) F7) F8) F9) F10) F11) F12) F13) F14)) (RMi.ext (zT (zT (zT (zT (zT (zT (zT (zT (zT (zT (zT (zT (zT F1 F2) F3) F4) F5) F6) F7) F8) F9) F10) F11) F12) F13) F14))) ?_
      rintro _ k15 F15 rfl
      refine zC (i := 54) rfl (by decide +kernel) rfl rfl (qN (v := .bool _) rfl) ?_
      refine qI (i := 55) rfl (by decide +kernel) (wT rfl rfl (v := .bool _) rfl) ?_
      refine qI (i := 56) rfl (by decide +kernel) (qC (v := .bool _) rfl) ?_
      refine zC (i := 57) rfl (by decide +kernel) rfl rfl (qC (v := .slice _ _ _) rfl) ?_
      refine zC (i := 58) rfl (by decide +kernel) rfl rfl (qC (v := .slice _ _ _) rfl) ?_
      refine zC (i := 59) rfl (by decide +kernel) rfl rfl (qC (v := .int .i64 _) rfl) ?_
      refine zC (i := 60) rfl (by decide +kernel) rfl rfl (wG (m := 1) rfl hU rfl rfl rfl (by omega) (by omega)) ?_
      refine dw_loadG (i := 61) rfl (by decide +kernel) rfl rfl ?_
      refine wS (v := .slice _ _ _) rfl rfl (((hcU.ext (zT (zT (zT (zT (zT (zT (zT (zT (zT (zT (zT (zT (zT (zT F1 F2) F3) F4) F5) F6) F7) F8) F9) F10) F11) F12) F13) F14) F15))) 0 _ rfl) ?_
      refine dw_lastG (i := 62) rfl (by decide +kernel) (by decide +kernel) rfl rfl ?_
      refine wJ (caps := []) (vs := [.slice _ _ _, .slice _ _ _]) rfl rfl rfl (SameHeard_ok li Su zU xU wU yU zs xs k15 (RUo.ext (zT (zT (zT (zT (zT (zT (zT (zT (zT (zT (zT (zT F3 F4) F5) F6) F7) F8) F9) F10) F11) F12) F13) F14) F15)) (EUo.ext TU.mono (zT (zT (zT (zT (zT (zT (zT (zT (zT (zT (zT (zT F3 F4) F5) F6) F7) F8) F9) F10) F11) F12) F13) F14) F15)) (RUi.ext (zT (zT (zT (zT (zT (zT (zT (zT (zT (zT (zT (zT (zT (zT F1 F2) F3) F4) F5) F6) F7) F8) F9) F10) F11) F12) F13) F14) F15)) (EUi.ext TU.mono (zT (zT (zT (zT (zT (zT (zT (zT (zT (zT (zT (zT (zT (zT F1 F2) F3) F4) F5) F6) F7) F8) F9) F10) F11) F12) F13) F14) F15))) ?_
      rintro _ k16 F16 rfl
      refine zC (i := 63) rfl (by decide +kernel) rfl rfl (qN (v := .bool _) rfl) ?_
      refine qI (i := 64) rfl (by decide +kernel) (wT rfl rfl (v := .bool _) rfl) ?_
      refine zN rfl ?_
      refine zJ rfl (rfl) ?_
      refine qR ?_
      refine qB rfl ?_
      refine qA (qC (v := .int .i64 _) rfl) ?_
      refine qA (qS rfl (by omega)) ?_
      refine qA (qD (v := .int .i64 _) rfl) ?_
      refine ⟨i + 1, ⟨rfl, trivial⟩, rfl, rfl, (zT (zT (zT (zT (zT (zT (zT (zT (zT (zT (zT (zT (zT (zT (zT (zT E_i F1) F2) F3) F4) F5) F6) F7) F8) F9) F10) F11) F12) F13) F14) F15) F16), fun h3 E3 => by omega, by first | omega | (dsimp only; omega), ?_⟩
      repeat (first | exact qW _ _ _ | refine wD (by decide) ?_ | refine qV rfl ?_ | refine wE rfl ?_)
     ·skip
      refine wV ?_
      refine qE ?_
      refine qB rfl ?_
      refine wJ (caps := []) (vs := []) rfl rfl rfl (rod_sounding rfl h_i) ?_
      rintro _ h26 E26 rfl
      refine qA (qD (v := .bool _) rfl) ?_
      refine qZ ?_
      exact ⟨rfl, fun V => (zT (zT (zT (zT (zT (zT (zT (zT (zT (zT (zT (zT (zT G0 G1) E1) E2) E4) E5) E6) E_ho) GO) G7) G8) E_i) E26) (qX V)), rfl⟩
end
end Go.Proofs.YthphpbdmbmiaiaaGreat
