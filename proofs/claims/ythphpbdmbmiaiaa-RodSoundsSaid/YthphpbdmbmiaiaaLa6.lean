/- An own logic over the model, its walks and its plain laws, joined of parts R55 R57 R22 Ud GU R56. Conditions: as each theorem states. -/
import Derived.Test.YthphpbdmbmiaiaaLa5
import Derived.Test.YthphpbdmbmiaiaaLa2
import Derived.Test.YthphpbdmbmiaiaaLa3
import Derived.Test.YthphpbdmbmiaiaaRows
import Derived.Deep.Slices
import Derived.ProofKit
import Derived.Test.YthphpbdmbmiaiaaLa1
set_option linter.all false
/- Walks: copies of machines, equal machines; the reference's Force; lists that are too long. Conditions: as each theorem states. -/
namespace Go.Proofs.Ythphpbdmbmiaiaa
open Go Go.HL Go.Proofs Go.Wx Go.Rd
section
variable [Lvl]
set_option maxRecDepth 100000
/-- A machine's cells. -/
abbrev machC (AB AQ AL AW : Option Addr) (cB cQ cL cW : Nat) (m : MachP) : List Value := [.int .i64 m.rods, .int .i64 m.levers, .int .i64 m.regs, .int .i64 m.travel, .int .i64 m.opn, .slice AB m.buttons.length cB, .slice AQ m.pins.length cQ, .slice AL m.links.length cL, .slice AW m.weights.length cW]
/-- Machines as elements: pins and links have room. -/
def TMa (h : AH) (m : MachP) (c : List Value) : Prop := ∃ AB AQ AL AW cB cQ cL cW, c = machC AB AQ AL AW cB cQ cL cW m ∧ MachR h AB AQ AL AW m ∧ m.pins.length ≤ cQ ∧ m.links.length ≤ cL
theorem TMa.mono : Mono TMa := fun h h' m c e ⟨AB, AQ, AL, AW, cB, cQ, cL, cW, hc, r, s⟩ => ⟨AB, AQ, AL, AW, cB, cQ, cL, cW, hc, r.ext e, s⟩
theorem CopyMachine_ok (m : MachP) (S : Sml m) (AB AQ AL AW : Option Addr) (cB cQ cL cW : Nat) (h : AH) (R : MachR h AB AQ AL AW m) :
    FnT Try.prog 20 #[machV AB AQ AL AW cB cQ cL cW m] h (fun v h' => ∃ AB AQ AL AW cB cQ cL cW, v = machV AB AQ AL AW cB cQ cL cW m ∧ MachR h' AB AQ AL AW m) := by
  have s1 := S.b
  have s2 := S.q
  have s3 := S.l
  have s4 := S.w
  refine call_body Try.func20 rfl Try.ntmps20 rfl ?_
  refine xp_seq ?_
  refine xp_region rfl ?_
  refine op_box (v := .agg #[.int .i64 _, .int .i64 _, .int .i64 _, .int .i64 _, .int .i64 _, .slice _ _ _, .slice _ _ _, .slice _ _ _, .slice _ _ _]) (cs := [_, _, _, _, _, _, _, _, _]) rfl rfl fun b1 hb1 => ?_
  refine wp_norm [_] rfl ?_
  refine op_alloc (cs := [_, _, _, _, _, _, _, _, _]) rfl rfl fun b2 hb2 => ?_
  refine wp_norm [_, _] rfl ?_
  refine xp_seq ?_
  refine xp_dw [] rfl rfl rfl ?_
  refine dw_pure (i := 0) rfl (by decide +kernel) (pv_fieldAddr rfl rfl rfl rfl 5 rfl) ?_
  refine dw_load (i := 1) rfl (by decide +kernel) ?_
  refine op_loadP 0 (v := .slice _ _ _) rfl rfl rfl rfl ?_
  refine dw_pure (i := 3) rfl (by decide +kernel) (pv_fieldAddr rfl rfl rfl rfl 8 rfl) ?_
  refine dw_load (i := 4) rfl (by decide +kernel) ?_
  refine op_loadP 0 (v := .slice _ _ _) rfl rfl rfl rfl ?_
  refine dw_eff (i := 2) rfl (by decide +kernel) ?_
  refine op_fn (caps := []) (vs := [.slice _ _ _]) rfl rfl rfl (Ints_ok m.buttons AB cB h (R.b.ext (Ext.refl _)) s1) ?_
  rintro _ g0 G0 ⟨A1, c1, rfl, R1⟩
  refine ⟨ext_wlm G0 _, ?_⟩
  refine dw_pure (i := 6) rfl (by decide +kernel) (pv_fieldAddr rfl rfl rfl rfl 5 rfl) ?_
  refine dw_last (i := 5) rfl (by decide +kernel) (by decide +kernel) ?_
  refine op_fn (caps := []) (vs := [.slice _ _ _]) rfl rfl rfl (Ints_ok m.weights AW cW g0 (R.w.ext G0) s4) ?_
  rintro _ g1 G1 ⟨A4, c4, rfl, R4⟩
  refine dw_last (i := 7) rfl (by decide +kernel) (by decide +kernel) ?_
  refine op_storeP 0 (v := .slice _ _ _) (vs := [_]) (c' := [_, _, _, _, _, _, _, _, _]) rfl rfl rfl rfl rfl rfl rfl rfl rfl ?_
  refine dw_norm [_, _] rfl ?_
  refine dw_pure (i := 8) rfl (by decide +kernel) (pv_fieldAddr rfl rfl rfl rfl 8 rfl) ?_
  refine dw_last (i := 9) rfl (by decide +kernel) (by decide +kernel) ?_
  refine op_storeP 0 (v := .slice _ _ _) (vs := [_]) (c' := [_, _, _, _, _, _, _, _, _]) rfl rfl rfl rfl rfl rfl rfl rfl rfl ?_
  refine dw_norm [_, _] rfl ?_
  refine dw_end rfl ?_
  refine xp_seq ?_
  refine xp_dw [false, false, true, true] rfl rfl rfl ?_
  refine dw_pure (i := 1) rfl (by decide +kernel) (pv_fieldAddr rfl rfl rfl rfl 6 rfl) ?_
  refine dw_load (i := 2) rfl (by decide +kernel) ?_
  refine op_loadP 0 (v := .slice _ _ _) rfl rfl rfl rfl ?_
  refine dw_pure (i := 5) rfl (by decide +kernel) (pv_fieldAddr rfl rfl rfl rfl 7 rfl) ?_
  refine dw_load (i := 6) rfl (by decide +kernel) ?_
  refine op_loadP 0 (v := .slice _ _ _) rfl rfl rfl rfl ?_
  refine dw_eff (i := 0) rfl (by decide +kernel) ?_
  refine op_buildSlice (zc := [_, _, _]) (vs := []) (cs := []) rfl rfl rfl rfl rfl rfl rfl fun b11 hb11 => ?_
  refine ⟨ext_newM hb11 _, ?_⟩
  refine dw_norm [_, _, _] rfl ?_
  refine dw_eff (i := 3) rfl (by decide +kernel) ?_
  refine op_appendR 2 accR_new rfl rfl rfl (fun V => R.q.2.ext (Ext.trans (Ext.trans G0 G1) (ext_wl V))) (flat_len R.q.1) (flat_plain pinP m.pins) rfl rfl rfl rfl rfl rfl rfl (by omega) rfl (by rw [flat_len R.q.1, List.length_nil]; omega) fun a2 h1a E1a ha2 => ?_
  refine ⟨ext_wlm E1a _, ?_⟩
  refine dw_norm [_, _, _] rfl ?_
  refine dw_pure (i := 8) rfl (by decide +kernel) (pv_fieldAddr rfl rfl rfl rfl 6 rfl) ?_
  refine dw_eff (i := 4) rfl (by decide +kernel) ?_
  refine op_buildSlice (zc := [_, _, _, _]) (vs := []) (cs := []) rfl rfl rfl rfl rfl rfl rfl fun b15 hb15 => ?_
  refine ⟨ext_newM hb15 _, ?_⟩
  refine dw_norm [_, _, _, _] rfl ?_
  refine dw_last (i := 7) rfl (by decide +kernel) (by decide +kernel) ?_
  refine op_appendR 3 accR_new rfl rfl rfl (fun V => R.l.2.ext (Ext.trans (Ext.trans (Ext.trans G0 G1) E1a) (ext_wl V))) (flat_len R.l.1) (flat_plain linkP m.links) rfl rfl rfl rfl rfl rfl rfl (by omega) rfl (by rw [flat_len R.l.1, List.length_nil]; omega) fun a3 h2a E2a ha3 => ?_
  refine dw_norm [_, _, _, _] rfl ?_
  refine dw_last (i := 9) rfl (by decide +kernel) (by decide +kernel) ?_
  refine op_storeP 0 (v := .slice _ _ _) (vs := [_]) (c' := [_, _, _, _, _, _, _, _, _]) rfl rfl rfl rfl rfl rfl rfl rfl rfl ?_
  refine dw_norm [_, _, _, _] rfl ?_
  refine dw_pure (i := 10) rfl (by decide +kernel) (pv_fieldAddr rfl rfl rfl rfl 7 rfl) ?_
  refine dw_last (i := 11) rfl (by decide +kernel) (by decide +kernel) ?_
  refine op_storeP 0 (v := .slice _ _ _) (vs := [_]) (c' := [_, _, _, _, _, _, _, _, _]) rfl rfl rfl rfl rfl rfl rfl rfl rfl ?_
  refine dw_norm [_, _, _, _] rfl ?_
  refine dw_end rfl ?_
  refine xp_seq ?_
  refine xp_region rfl ?_
  refine op_loadPA 0 (vs := [.int .i64 _, .int .i64 _, .int .i64 _, .int .i64 _, .int .i64 _, .slice _ _ _, .slice _ _ _, .slice _ _ _, .slice _ _ _]) rfl rfl rfl rfl rfl ?_
  refine op_storeP 1 (v := .agg #[.int .i64 _, .int .i64 _, .int .i64 _, .int .i64 _, .int .i64 _, .slice _ _ _, .slice _ _ _, .slice _ _ _, .slice _ _ _]) (vs := [_, _, _, _, _, _, _, _, _]) (c' := [_, _, _, _, _, _, _, _, _]) rfl rfl rfl rfl rfl rfl rfl rfl rfl ?_
  refine wp_norm [_, _, _, _] rfl ?_
  refine xp_ret ?_
  refine res_list (vs := [_]) Try.results20 ⟨resV_agg 1 rfl rfl rfl rfl rfl (vs := [.int .i64 _, .int .i64 _, .int .i64 _, .int .i64 _, .int .i64 _, .slice _ _ _, .slice _ _ _, .slice _ _ _, .slice _ _ _]) rfl, trivial⟩ fun V => ?_
  have n2 : a2.n = m.pins.length := by have := AccR.len ha2; rw [List.nil_append, flat_len (m := 3) (fun _ _ => rfl)] at this; omega
  have n3 : a3.n = m.links.length := by have := AccR.len ha3; rw [List.nil_append, flat_len (m := 4) (fun _ _ => rfl)] at this; omega
  refine ⟨(Ext.trans (Ext.trans (Ext.trans (Ext.trans G0 G1) E1a) E2a) (ext_wl V)), A1, a2.A, a3.A, A4, c1, a2.c, a3.c, c4, by rw [n2, n3]; rfl, ⟨(R1.ext (Ext.trans (Ext.trans G1 E1a) E2a)).ext (ext_wl V), row_acc (i := 2) ha2 (by omega) (fun _ _ => rfl) V rfl, row_acc (i := 3) ha3 (by omega) (fun _ _ => rfl) V rfl, (R4.ext (Ext.trans E1a E2a)).ext (ext_wl V)⟩⟩
theorem pinEq (a b : PinP) : pev Try.prog (Op.equalIn Op.maxDepth 36 (.agg (pinC a).toArray) (.agg (pinC b).toArray)) = some (decide (a.rod = b.rod ∧ a.lever = b.lever ∧ a.lag = b.lag)) := by
  have h1 := eq_struct (P := Try.prog) (t := 36) (d := 9999) (fs := [_, _, _]) (xs := (pinC a).toArray) (ys := (pinC b).toArray) (rs := [a.rod == b.rod, a.lever == b.lever, a.lag == b.lag]) rfl (by kernel_rfl) rfl ?_
  · refine h1.trans ?_
    simp only [List.all_cons, List.all_nil, id, Bool.and_true, Option.some.injEq]
    rw [Bool.eq_iff_iff]
    simp
  · intro i f r hf hr
    match i, hf, hr with
    | 0, hf, hr => cases hf; cases hr; exact ⟨by decide, _, _, rfl, rfl, eq_int rfl _ _⟩
    | 1, hf, hr => cases hf; cases hr; exact ⟨by decide, _, _, rfl, rfl, eq_int rfl _ _⟩
    | 2, hf, hr => cases hf; cases hr; exact ⟨by decide, _, _, rfl, rfl, eq_int rfl _ _⟩
    | i + 3, hf, hr => simp at hf
theorem linkEq (a b : LinkP) : pev Try.prog (Op.equalIn Op.maxDepth 39 (.agg (linkC a).toArray) (.agg (linkC b).toArray)) = some (decide (a.frm = b.frm ∧ a.to = b.to ∧ a.reg = b.reg ∧ a.lag = b.lag)) := by
  have h1 := eq_struct (P := Try.prog) (t := 39) (d := 9999) (fs := [_, _, _, _]) (xs := (linkC a).toArray) (ys := (linkC b).toArray) (rs := [a.frm == b.frm, a.to == b.to, a.reg == b.reg, a.lag == b.lag]) rfl (by kernel_rfl) rfl ?_
  · refine h1.trans ?_
    simp only [List.all_cons, List.all_nil, id, Bool.and_true, Option.some.injEq]
    rw [Bool.eq_iff_iff]
    simp
  · intro i f r hf hr
    match i, hf, hr with
    | 0, hf, hr => cases hf; cases hr; exact ⟨by decide, _, _, rfl, rfl, eq_int rfl _ _⟩
    | 1, hf, hr => cases hf; cases hr; exact ⟨by decide, _, _, rfl, rfl, eq_int rfl _ _⟩
    | 2, hf, hr => cases hf; cases hr; exact ⟨by decide, _, _, rfl, rfl, eq_int rfl _ _⟩
    | 3, hf, hr => cases hf; cases hr; exact ⟨by decide, _, _, rfl, rfl, eq_int rfl _ _⟩
    | i + 4, hf, hr => simp at hf
theorem pinSelf (a : PinP) : pev Try.prog (Op.equalIn Op.maxDepth 36 (.agg (pinC a).toArray) (.agg (pinC a).toArray)) = some true := by rw [pinEq]; simp
theorem linkSelf (a : LinkP) : pev Try.prog (Op.equalIn Op.maxDepth 39 (.agg (linkC a).toArray) (.agg (linkC a).toArray)) = some true := by rw [linkEq]; simp
theorem sameIntsS_ok (a : List Int) (A B : Option Addr) (ca cb : Nat) (h : AH) (Ra : Row h 1 intC A a) (Rb : Row h 1 intC B a) (ha : a.length < 2 ^ 40) :
    FnT Try.prog 40 #[.slice A a.length ca, .slice B a.length cb] h (fun v _ => v = .bool true) :=
  (sameInts_ok a a A B ca cb h Ra Rb ha).mono (fun v _ e => ⟨e.1, e.2.trans (boolE (decide_eq_true rfl))⟩) fun _ _ e => e
/-- Two copies of one machine are the same. -/
theorem SameMachines_ok (m : MachP) (S : Sml m) (AB AQ AL AW : Option Addr) (cB cQ cL cW : Nat) (AB' AQ' AL' AW' : Option Addr) (cB' cQ' cL' cW' : Nat) (h : AH) (R : MachR h AB AQ AL AW m) (R' : MachR h AB' AQ' AL' AW' m) :
    FnT Try.prog 41 #[machV AB AQ AL AW cB cQ cL cW m, machV AB' AQ' AL' AW' cB' cQ' cL' cW' m] h (fun v _ => v = .bool true) := by
  have s1 := S.b
  have s2 := S.q
  have s3 := S.l
  have s4 := S.w
  have q1 : (m.rods == m.rods) = true := by simp
  have q2 : (m.levers == m.levers) = true := by simp
  have q3 : (m.regs == m.regs) = true := by simp
  have q4 : (m.travel == m.travel) = true := by simp
  have q5 : (m.opn == m.opn) = true := by simp
  have q6 : ((m.pins.length : Int) == (m.pins.length : Int)) = true := by simp
  have q7 : ((m.links.length : Int) == (m.links.length : Int)) = true := by simp
  refine call_body Try.func41 rfl Try.ntmps41 rfl ?_
  refine xp_seq ?_
  refine xp_region rfl ?_
  refine op_box (v := .agg #[.int .i64 _, .int .i64 _, .int .i64 _, .int .i64 _, .int .i64 _, .slice _ _ _, .slice _ _ _, .slice _ _ _, .slice _ _ _]) (cs := [_, _, _, _, _, _, _, _, _]) rfl rfl fun b2 hb2 => ?_
  refine wp_norm [_] rfl ?_
  refine op_box (v := .agg #[.int .i64 _, .int .i64 _, .int .i64 _, .int .i64 _, .int .i64 _, .slice _ _ _, .slice _ _ _, .slice _ _ _, .slice _ _ _]) (cs := [_, _, _, _, _, _, _, _, _]) rfl rfl fun b3 hb3 => ?_
  refine wp_norm [_, _] rfl ?_
  refine op_pure (pv_assign (v := .bool _) rfl) ?_
  refine xp_seq ?_
  refine xp_region rfl ?_
  refine op_pure (pv_fieldAddr rfl rfl rfl rfl 0 rfl) ?_
  refine op_loadP 0 (v := .int .i64 _) rfl rfl rfl rfl ?_
  refine op_pure (pv_fieldAddr rfl rfl rfl rfl 0 rfl) ?_
  refine op_loadP 1 (v := .int .i64 _) rfl rfl rfl rfl ?_
  refine op_pure (pv_of (v := .bool _) rfl) ?_
  refine op_pure (pv_move (v := .bool _) rfl) ?_
  refine guard_yes rfl q1 ?_
  refine op_pure (pv_fieldAddr rfl rfl rfl rfl 1 rfl) ?_
  refine guard_yes rfl q1 ?_
  refine op_loadP 0 (v := .int .i64 _) rfl rfl rfl rfl ?_
  refine guard_yes rfl q1 ?_
  refine op_pure (pv_fieldAddr rfl rfl rfl rfl 1 rfl) ?_
  refine guard_yes rfl q1 ?_
  refine op_loadP 1 (v := .int .i64 _) rfl rfl rfl rfl ?_
  refine guard_yes rfl q1 ?_
  refine op_pure (pv_of (v := .bool _) rfl) ?_
  refine op_pure (pv_pickT rfl q1 (v := .bool _) rfl) ?_
  refine op_pure (pv_move (v := .bool _) rfl) ?_
  refine guard_yes rfl q2 ?_
  refine op_pure (pv_fieldAddr rfl rfl rfl rfl 2 rfl) ?_
  refine guard_yes rfl q2 ?_
  refine op_loadP 0 (v := .int .i64 _) rfl rfl rfl rfl ?_
  refine guard_yes rfl q2 ?_
  refine op_pure (pv_fieldAddr rfl rfl rfl rfl 2 rfl) ?_
  refine guard_yes rfl q2 ?_
  refine op_loadP 1 (v := .int .i64 _) rfl rfl rfl rfl ?_
  refine guard_yes rfl q2 ?_
  refine op_pure (pv_of (v := .bool _) rfl) ?_
  refine op_pure (pv_pickT rfl q2 (v := .bool _) rfl) ?_
  refine op_pure (pv_move (v := .bool _) rfl) ?_
  refine guard_yes rfl q3 ?_
  refine op_pure (pv_fieldAddr rfl rfl rfl rfl 3 rfl) ?_
  refine guard_yes rfl q3 ?_
  refine op_loadP 0 (v := .int .i64 _) rfl rfl rfl rfl ?_
  refine guard_yes rfl q3 ?_
  refine op_pure (pv_fieldAddr rfl rfl rfl rfl 3 rfl) ?_
  refine guard_yes rfl q3 ?_
  refine op_loadP 1 (v := .int .i64 _) rfl rfl rfl rfl ?_
  refine guard_yes rfl q3 ?_
  refine op_pure (pv_of (v := .bool _) rfl) ?_
  refine op_pure (pv_pickT rfl q3 (v := .bool _) rfl) ?_
  refine op_pure (pv_move (v := .bool _) rfl) ?_
  refine guard_yes rfl q4 ?_
  refine op_pure (pv_fieldAddr rfl rfl rfl rfl 4 rfl) ?_
  refine guard_yes rfl q4 ?_
  refine op_loadP 0 (v := .int .i64 _) rfl rfl rfl rfl ?_
  refine guard_yes rfl q4 ?_
  refine op_pure (pv_fieldAddr rfl rfl rfl rfl 4 rfl) ?_
  refine guard_yes rfl q4 ?_
  refine op_loadP 1 (v := .int .i64 _) rfl rfl rfl rfl ?_
  refine guard_yes rfl q4 ?_
  refine op_pure (pv_of (v := .bool _) rfl) ?_
  refine op_pure (pv_pickT rfl q4 (v := .bool _) rfl) ?_
  refine op_pure (pv_move (v := .bool _) rfl) ?_
  refine guard_yes rfl q5 ?_
  refine op_pure (pv_fieldAddr rfl rfl rfl rfl 5 rfl) ?_
  refine guard_yes rfl q5 ?_
  refine op_loadP 0 (v := .slice _ _ _) rfl rfl rfl rfl ?_
  refine guard_yes rfl q5 ?_
  refine op_pure (pv_fieldAddr rfl rfl rfl rfl 5 rfl) ?_
  refine guard_yes rfl q5 ?_
  refine op_loadP 1 (v := .slice _ _ _) rfl rfl rfl rfl ?_
  refine guard_yes rfl q5 ?_
  refine op_fn (caps := []) (vs := [.slice _ _ _, .slice _ _ _]) rfl rfl rfl (sameIntsS_ok m.buttons _ _ _ _ h (R.b.ext (Ext.refl _)) (R'.b.ext (Ext.refl _)) (by omega)) ?_
  rintro _ h3 E3 rfl
  refine op_pure (pv_pickT rfl q5 (v := .bool _) rfl) ?_
  refine op_pure (pv_move (v := .bool _) rfl) ?_
  refine guard_yes rfl rfl ?_
  refine op_pure (pv_fieldAddr rfl rfl rfl rfl 8 rfl) ?_
  refine guard_yes rfl rfl ?_
  refine op_loadP 0 (v := .slice _ _ _) rfl rfl rfl rfl ?_
  refine guard_yes rfl rfl ?_
  refine op_pure (pv_fieldAddr rfl rfl rfl rfl 8 rfl) ?_
  refine guard_yes rfl rfl ?_
  refine op_loadP 1 (v := .slice _ _ _) rfl rfl rfl rfl ?_
  refine guard_yes rfl rfl ?_
  refine op_fn (caps := []) (vs := [.slice _ _ _, .slice _ _ _]) rfl rfl rfl (sameIntsS_ok m.weights _ _ _ _ h3 (R.w.ext E3) (R'.w.ext E3) (by omega)) ?_
  rintro _ h4 E4 rfl
  refine op_pure (pv_pickT rfl rfl (v := .bool _) rfl) ?_
  refine op_pure (pv_move (v := .bool _) rfl) ?_
  refine guard_yes rfl rfl ?_
  refine op_pure (pv_fieldAddr rfl rfl rfl rfl 6 rfl) ?_
  refine guard_yes rfl rfl ?_
  refine op_loadP 0 (v := .slice _ _ _) rfl rfl rfl rfl ?_
  refine guard_yes rfl rfl ?_
  refine op_pure (pv_len rfl rfl) ?_
  refine guard_yes rfl rfl ?_
  refine op_pure (pv_fieldAddr rfl rfl rfl rfl 6 rfl) ?_
  refine guard_yes rfl rfl ?_
  refine op_loadP 1 (v := .slice _ _ _) rfl rfl rfl rfl ?_
  refine guard_yes rfl rfl ?_
  refine op_pure (pv_len rfl rfl) ?_
  refine guard_yes rfl rfl ?_
  refine op_pure (pv_of (v := .bool _) rfl) ?_
  refine op_pure (pv_pickT rfl rfl (v := .bool _) rfl) ?_
  refine op_pure (pv_move (v := .bool _) rfl) ?_
  refine guard_yes rfl q6 ?_
  refine op_pure (pv_fieldAddr rfl rfl rfl rfl 7 rfl) ?_
  refine guard_yes rfl q6 ?_
  refine op_loadP 0 (v := .slice _ _ _) rfl rfl rfl rfl ?_
  refine guard_yes rfl q6 ?_
  refine op_pure (pv_len rfl rfl) ?_
  refine guard_yes rfl q6 ?_
  refine op_pure (pv_fieldAddr rfl rfl rfl rfl 7 rfl) ?_
  refine guard_yes rfl q6 ?_
  refine op_loadP 1 (v := .slice _ _ _) rfl rfl rfl rfl ?_
  refine guard_yes rfl q6 ?_
  refine op_pure (pv_len rfl rfl) ?_
  refine guard_yes rfl q6 ?_
  refine op_pure (pv_of (v := .bool _) rfl) ?_
  refine op_pure (pv_pickT rfl q6 (v := .bool _) rfl) ?_
  refine op_pure (pv_assign (v := .bool _) rfl) ?_
  refine xp_seq ?_
  refine xp_seq ?_
  refine xp_region rfl ?_
  refine op_pure (pv_assign (v := .int .i64 _) rfl) ?_
  refine xp_block ?_
  refine xp_loopB [5, 6, 73, 74, 75, 76, 77, 78, 79, 80, 81, 82, 83, 84, 85, 86, 87, 88, 89, 90, 91, 92, 93] 2 (α := Nat) (fun k => [(5, .bool true), (6, .int .i64 k)]) (fun k => _) (fun k h_k => k ≤ m.pins.length) (fun k => m.pins.length - k) (0) ⟨boolE q7, rfl, trivial⟩ (rfl) (Nat.zero_le _) ?_
  rintro k T1 h_k E_k J_k
  refine goes_norm [_, _] rfl ?_
  refine xp_seq ?_
  refine xp_seq ?_
  refine xp_region rfl ?_
  refine op_pure (pv_move (v := .bool _) rfl) ?_
  refine op_pure (pv_move (v := .bool _) rfl) ?_
  refine guard_yes rfl rfl ?_
  refine op_pure (pv_move (v := .int .i64 _) rfl) ?_
  refine guard_yes rfl rfl ?_
  refine op_pure (pv_fieldAddr rfl rfl rfl rfl 6 rfl) ?_
  refine guard_yes rfl rfl ?_
  refine op_loadP 0 (v := .slice _ _ _) rfl rfl rfl rfl ?_
  refine guard_yes rfl rfl ?_
  refine op_pure (pv_len rfl rfl) ?_
  refine guard_yes rfl rfl ?_
  refine op_pure (pv_of (v := .bool _) rfl) ?_
  refine op_pure (pv_pickT rfl rfl (v := .bool _) rfl) ?_
  refine xp_cond rfl (fun ht => ?_) (fun ht => ?_)
  · skip
    have hkl : k < m.pins.length := ltI ht
    obtain ⟨g, off, hA, hc⟩ := (R.q.ext (Ext.trans (Ext.trans E3 E4) E_k)).at (by omega) hkl
    obtain ⟨g2, off2, hB, hd⟩ := (R'.q.ext (Ext.trans (Ext.trans E3 E4) E_k)).at (by omega) hkl
    refine xp_skip ?_
    refine xp_seq ?_
    refine xp_block ?_
    refine xp_dw [] rfl rfl rfl ?_
    refine dw_pure (i := 0) rfl (by decide +kernel) (pv_fieldAddr rfl rfl rfl rfl 6 rfl) ?_
    refine dw_load (i := 1) rfl (by decide +kernel) ?_
    refine op_loadP 0 (v := .slice _ _ _) rfl rfl rfl rfl ?_
    refine dw_pure (i := 2) rfl (by decide +kernel) (pv_move (v := .int .i64 _) rfl) ?_
    refine dw_pure (i := 3) rfl (by decide +kernel) (pv_indexE rfl hA rfl rfl rfl (by omega) (by omega)) ?_
    refine dw_load (i := 4) rfl (by decide +kernel) ?_
    refine op_loadA rfl rfl rfl rfl (hc) ?_
    refine dw_pure (i := 5) rfl (by decide +kernel) (pv_fieldAddr rfl rfl rfl rfl 6 rfl) ?_
    refine dw_load (i := 6) rfl (by decide +kernel) ?_
    refine op_loadP 1 (v := .slice _ _ _) rfl rfl rfl rfl ?_
    refine dw_pure (i := 7) rfl (by decide +kernel) (pv_move (v := .int .i64 _) rfl) ?_
    refine dw_pure (i := 8) rfl (by decide +kernel) (pv_indexE rfl hB rfl rfl rfl (by omega) (by omega)) ?_
    refine dw_load (i := 9) rfl (by decide +kernel) ?_
    refine op_loadA rfl rfl rfl rfl (hd) ?_
    refine dw_pure (i := 10) rfl (by decide +kernel) (pv_eqA rfl rfl (by kernel_rfl) (pinSelf _)) ?_
    refine dw_pure (i := 11) rfl (by decide +kernel) (pv_assign (v := .bool _) rfl) ?_
    refine dw_end rfl ?_
    refine xp_region rfl ?_
    refine op_pure (pv_move (v := .int .i64 _) rfl) ?_
    refine op_pure (pv_arith rfl (by omega)) ?_
    refine op_pure (pv_assign (v := .int .i64 _) rfl) ?_
    refine ⟨k + 1, ⟨rfl, rfl, trivial⟩, rfl, rfl, E_k, fun h3 E3 => hkl, by first | omega | (dsimp only; omega), ?_⟩
    repeat (first | exact off_base _ _ _ | refine off_upd (by decide) ?_ | refine off_updL rfl ?_ | refine off_mix rfl ?_)
  · skip
    have hke : k = m.pins.length := by have := geI ht; omega
    subst hke
    refine xp_exit ?_
    refine xp_seq ?_
    refine xp_seq ?_
    refine xp_region rfl ?_
    refine op_pure (pv_assign (v := .int .i64 _) rfl) ?_
    refine xp_block ?_
    refine xp_loopB [5, 7, 94, 95, 96, 97, 98, 99, 100, 101, 102, 103, 104, 105, 106, 107, 108, 109, 110, 111, 112, 113, 114] 2 (α := Nat) (fun j => [(5, .bool true), (7, .int .i64 j)]) (fun j => _) (fun j h_j => j ≤ m.links.length) (fun j => m.links.length - j) (0) ⟨rfl, rfl, trivial⟩ (rfl) (Nat.zero_le _) ?_
    rintro j T2 h_j E_j J_j
    refine goes_norm [_, _] rfl ?_
    refine xp_seq ?_
    refine xp_seq ?_
    refine xp_region rfl ?_
    refine op_pure (pv_move (v := .bool _) rfl) ?_
    refine op_pure (pv_move (v := .bool _) rfl) ?_
    refine guard_yes rfl rfl ?_
    refine op_pure (pv_move (v := .int .i64 _) rfl) ?_
    refine guard_yes rfl rfl ?_
    refine op_pure (pv_fieldAddr rfl rfl rfl rfl 7 rfl) ?_
    refine guard_yes rfl rfl ?_
    refine op_loadP 0 (v := .slice _ _ _) rfl rfl rfl rfl ?_
    refine guard_yes rfl rfl ?_
    refine op_pure (pv_len rfl rfl) ?_
    refine guard_yes rfl rfl ?_
    refine op_pure (pv_of (v := .bool _) rfl) ?_
    refine op_pure (pv_pickT rfl rfl (v := .bool _) rfl) ?_
    refine xp_cond rfl (fun hj => ?_) (fun hj => ?_)
    · skip
      have hkl : j < m.links.length := ltI hj
      obtain ⟨g, off, hA, hc⟩ := (R.l.ext (Ext.trans (Ext.trans (Ext.trans E3 E4) E_k) E_j)).at (by omega) hkl
      obtain ⟨g2, off2, hB, hd⟩ := (R'.l.ext (Ext.trans (Ext.trans (Ext.trans E3 E4) E_k) E_j)).at (by omega) hkl
      refine xp_skip ?_
      refine xp_seq ?_
      refine xp_block ?_
      refine xp_dw [] rfl rfl rfl ?_
      refine dw_pure (i := 0) rfl (by decide +kernel) (pv_fieldAddr rfl rfl rfl rfl 7 rfl) ?_
      refine dw_load (i := 1) rfl (by decide +kernel) ?_
      refine op_loadP 0 (v := .slice _ _ _) rfl rfl rfl rfl ?_
      refine dw_pure (i := 2) rfl (by decide +kernel) (pv_move (v := .int .i64 _) rfl) ?_
      refine dw_pure (i := 3) rfl (by decide +kernel) (pv_indexE rfl hA rfl rfl rfl (by omega) (by omega)) ?_
      refine dw_load (i := 4) rfl (by decide +kernel) ?_
      refine op_loadA rfl rfl rfl rfl (hc) ?_
      refine dw_pure (i := 5) rfl (by decide +kernel) (pv_fieldAddr rfl rfl rfl rfl 7 rfl) ?_
      refine dw_load (i := 6) rfl (by decide +kernel) ?_
      refine op_loadP 1 (v := .slice _ _ _) rfl rfl rfl rfl ?_
      refine dw_pure (i := 7) rfl (by decide +kernel) (pv_move (v := .int .i64 _) rfl) ?_
      refine dw_pure (i := 8) rfl (by decide +kernel) (pv_indexE rfl hB rfl rfl rfl (by omega) (by omega)) ?_
      refine dw_load (i := 9) rfl (by decide +kernel) ?_
      refine op_loadA rfl rfl rfl rfl (hd) ?_
      refine dw_pure (i := 10) rfl (by decide +kernel) (pv_eqA rfl rfl (by kernel_rfl) (linkSelf _)) ?_
      refine dw_pure (i := 11) rfl (by decide +kernel) (pv_assign (v := .bool _) rfl) ?_
      refine dw_end rfl ?_
      refine xp_region rfl ?_
      refine op_pure (pv_move (v := .int .i64 _) rfl) ?_
      refine op_pure (pv_arith rfl (by omega)) ?_
      refine op_pure (pv_assign (v := .int .i64 _) rfl) ?_
      refine ⟨j + 1, ⟨rfl, rfl, trivial⟩, rfl, rfl, E_j, fun h3 E3 => hkl, by first | omega | (dsimp only; omega), ?_⟩
      repeat (first | exact off_base _ _ _ | refine off_upd (by decide) ?_ | refine off_updL rfl ?_ | refine off_mix rfl ?_)
    · skip
      refine xp_exit ?_
      refine xp_seq ?_
      refine xp_region rfl ?_
      refine op_pure (pv_move (v := .bool _) rfl) ?_
      refine op_pure (pv_assign (v := .bool _) rfl) ?_
      refine xp_ret ?_
      refine res_list (vs := [_]) Try.results41 ⟨resV_tmp rfl rfl, trivial⟩ fun V => ?_
      exact ⟨(Ext.trans (Ext.trans (Ext.trans (Ext.trans E3 E4) E_k) E_j) (ext_wl V)), rfl⟩
def largeB (m : MachP) (a : HandP) : Bool := decide ((m.buttons.length : Int) > 20) || decide ((m.pins.length : Int) > 20) || decide ((m.links.length : Int) > 20) || decide ((m.weights.length : Int) > 20) || decide ((a.buttons.length : Int) > 20) || decide ((a.on.length : Int) > 20)
theorem large_ok (m : MachP) (a : HandP) (AB AQ AL AW HA OA : Option Addr) (cB cQ cL cW cH cO : Nat) (h : AH) :
    FnT Try.prog 32 #[machV AB AQ AL AW cB cQ cL cW m, handV HA OA cH cO a] h (fun v _ => v = .bool (largeB m a)) := by
  refine call_body Try.func32 rfl Try.ntmps32 rfl ?_
  refine xp_seq ?_
  refine xp_region rfl ?_
  refine op_box (v := .agg #[.int .i64 _, .int .i64 _, .int .i64 _, .int .i64 _, .int .i64 _, .slice _ _ _, .slice _ _ _, .slice _ _ _, .slice _ _ _]) (cs := [_, _, _, _, _, _, _, _, _]) rfl rfl fun b2 hb2 => ?_
  refine wp_norm [_] rfl ?_
  refine op_box (v := .agg #[.slice _ _ _, .slice _ _ _]) (cs := [_, _]) rfl rfl fun b3 hb3 => ?_
  refine wp_norm [_, _] rfl ?_
  refine op_pure (pv_assign (v := .bool _) rfl) ?_
  rcases Bool.eq_false_or_eq_true (decide ((m.buttons.length : Int) > 20)) with e0 | e0
  · skip
    refine xp_seq ?_
    refine xp_region rfl ?_
    refine op_pure (pv_fieldAddr rfl rfl rfl rfl 5 rfl) ?_
    refine op_loadP 0 (v := .slice _ _ _) rfl rfl rfl rfl ?_
    refine op_pure (pv_len rfl rfl) ?_
    refine op_pure (pv_of (v := .bool _) rfl) ?_
    refine op_pure (pv_move (v := .bool _) rfl) ?_
    refine guard_no rfl e0 ?_
    refine guard_no rfl e0 ?_
    refine guard_no rfl e0 ?_
    refine guard_no rfl e0 ?_
    refine op_pure (pv_pickT rfl e0 (v := .bool _) rfl) ?_
    refine op_pure (pv_move (v := .bool _) rfl) ?_
    refine guard_no rfl rfl ?_
    refine guard_no rfl rfl ?_
    refine guard_no rfl rfl ?_
    refine guard_no rfl rfl ?_
    refine op_pure (pv_pickT rfl rfl (v := .bool _) rfl) ?_
    refine op_pure (pv_move (v := .bool _) rfl) ?_
    refine guard_no rfl rfl ?_
    refine guard_no rfl rfl ?_
    refine guard_no rfl rfl ?_
    refine guard_no rfl rfl ?_
    refine op_pure (pv_pickT rfl rfl (v := .bool _) rfl) ?_
    refine op_pure (pv_move (v := .bool _) rfl) ?_
    refine guard_no rfl rfl ?_
    refine guard_no rfl rfl ?_
    refine guard_no rfl rfl ?_
    refine guard_no rfl rfl ?_
    refine op_pure (pv_pickT rfl rfl (v := .bool _) rfl) ?_
    refine op_pure (pv_move (v := .bool _) rfl) ?_
    refine guard_no rfl rfl ?_
    refine guard_no rfl rfl ?_
    refine guard_no rfl rfl ?_
    refine guard_no rfl rfl ?_
    refine op_pure (pv_pickT rfl rfl (v := .bool _) rfl) ?_
    refine op_pure (pv_assign (v := .bool _) rfl) ?_
    refine xp_ret ?_
    refine res_list (vs := [_]) Try.results32 ⟨resV_tmp rfl rfl, trivial⟩ fun V => ?_
    exact ⟨(ext_wl V), boolE (by rw [largeB, e0]; simp)⟩
  · skip
    rcases Bool.eq_false_or_eq_true (decide ((m.pins.length : Int) > 20)) with e1 | e1
    · skip
      refine xp_seq ?_
      refine xp_region rfl ?_
      refine op_pure (pv_fieldAddr rfl rfl rfl rfl 5 rfl) ?_
      refine op_loadP 0 (v := .slice _ _ _) rfl rfl rfl rfl ?_
      refine op_pure (pv_len rfl rfl) ?_
      refine op_pure (pv_of (v := .bool _) rfl) ?_
      refine op_pure (pv_move (v := .bool _) rfl) ?_
      refine guard_yes rfl e0 ?_
      refine op_pure (pv_fieldAddr rfl rfl rfl rfl 6 rfl) ?_
      refine guard_yes rfl e0 ?_
      refine op_loadP 0 (v := .slice _ _ _) rfl rfl rfl rfl ?_
      refine guard_yes rfl e0 ?_
      refine op_pure (pv_len rfl rfl) ?_
      refine guard_yes rfl e0 ?_
      refine op_pure (pv_of (v := .bool _) rfl) ?_
      refine op_pure (pv_pickF rfl e0 (v := .bool _) rfl) ?_
      refine op_pure (pv_move (v := .bool _) rfl) ?_
      refine guard_no rfl e1 ?_
      refine guard_no rfl e1 ?_
      refine guard_no rfl e1 ?_
      refine guard_no rfl e1 ?_
      refine op_pure (pv_pickT rfl e1 (v := .bool _) rfl) ?_
      refine op_pure (pv_move (v := .bool _) rfl) ?_
      refine guard_no rfl rfl ?_
      refine guard_no rfl rfl ?_
      refine guard_no rfl rfl ?_
      refine guard_no rfl rfl ?_
      refine op_pure (pv_pickT rfl rfl (v := .bool _) rfl) ?_
      refine op_pure (pv_move (v := .bool _) rfl) ?_
      refine guard_no rfl rfl ?_
      refine guard_no rfl rfl ?_
      refine guard_no rfl rfl ?_
      refine guard_no rfl rfl ?_
      refine op_pure (pv_pickT rfl rfl (v := .bool _) rfl) ?_
      refine op_pure (pv_move (v := .bool _) rfl) ?_
      refine guard_no rfl rfl ?_
      refine guard_no rfl rfl ?_
      refine guard_no rfl rfl ?_
      refine guard_no rfl rfl ?_
      refine op_pure (pv_pickT rfl rfl (v := .bool _) rfl) ?_
      refine op_pure (pv_assign (v := .bool _) rfl) ?_
      refine xp_ret ?_
      refine res_list (vs := [_]) Try.results32 ⟨resV_tmp rfl rfl, trivial⟩ fun V => ?_
      exact ⟨(ext_wl V), boolE (by rw [largeB, e0, e1]; simp)⟩
    · skip
      rcases Bool.eq_false_or_eq_true (decide ((m.links.length : Int) > 20)) with e2 | e2
      · skip
        refine xp_seq ?_
        refine xp_region rfl ?_
        refine op_pure (pv_fieldAddr rfl rfl rfl rfl 5 rfl) ?_
        refine op_loadP 0 (v := .slice _ _ _) rfl rfl rfl rfl ?_
        refine op_pure (pv_len rfl rfl) ?_
        refine op_pure (pv_of (v := .bool _) rfl) ?_
        refine op_pure (pv_move (v := .bool _) rfl) ?_
        refine guard_yes rfl e0 ?_
        refine op_pure (pv_fieldAddr rfl rfl rfl rfl 6 rfl) ?_
        refine guard_yes rfl e0 ?_
        refine op_loadP 0 (v := .slice _ _ _) rfl rfl rfl rfl ?_
        refine guard_yes rfl e0 ?_
        refine op_pure (pv_len rfl rfl) ?_
        refine guard_yes rfl e0 ?_
        refine op_pure (pv_of (v := .bool _) rfl) ?_
        refine op_pure (pv_pickF rfl e0 (v := .bool _) rfl) ?_
        refine op_pure (pv_move (v := .bool _) rfl) ?_
        refine guard_yes rfl e1 ?_
        refine op_pure (pv_fieldAddr rfl rfl rfl rfl 7 rfl) ?_
        refine guard_yes rfl e1 ?_
        refine op_loadP 0 (v := .slice _ _ _) rfl rfl rfl rfl ?_
        refine guard_yes rfl e1 ?_
        refine op_pure (pv_len rfl rfl) ?_
        refine guard_yes rfl e1 ?_
        refine op_pure (pv_of (v := .bool _) rfl) ?_
        refine op_pure (pv_pickF rfl e1 (v := .bool _) rfl) ?_
        refine op_pure (pv_move (v := .bool _) rfl) ?_
        refine guard_no rfl e2 ?_
        refine guard_no rfl e2 ?_
        refine guard_no rfl e2 ?_
        refine guard_no rfl e2 ?_
        refine op_pure (pv_pickT rfl e2 (v := .bool _) rfl) ?_
        refine op_pure (pv_move (v := .bool _) rfl) ?_
        refine guard_no rfl rfl ?_
        refine guard_no rfl rfl ?_
        refine guard_no rfl rfl ?_
        refine guard_no rfl rfl ?_
        refine op_pure (pv_pickT rfl rfl (v := .bool _) rfl) ?_
        refine op_pure (pv_move (v := .bool _) rfl) ?_
        refine guard_no rfl rfl ?_
        refine guard_no rfl rfl ?_
        refine guard_no rfl rfl ?_
        refine guard_no rfl rfl ?_
        refine op_pure (pv_pickT rfl rfl (v := .bool _) rfl) ?_
        refine op_pure (pv_assign (v := .bool _) rfl) ?_
        refine xp_ret ?_
        refine res_list (vs := [_]) Try.results32 ⟨resV_tmp rfl rfl, trivial⟩ fun V => ?_
        exact ⟨(ext_wl V), boolE (by rw [largeB, e0, e1, e2]; simp)⟩
      · skip
        rcases Bool.eq_false_or_eq_true (decide ((m.weights.length : Int) > 20)) with e3 | e3
        · skip
          refine xp_seq ?_
          refine xp_region rfl ?_
          refine op_pure (pv_fieldAddr rfl rfl rfl rfl 5 rfl) ?_
          refine op_loadP 0 (v := .slice _ _ _) rfl rfl rfl rfl ?_
          refine op_pure (pv_len rfl rfl) ?_
          refine op_pure (pv_of (v := .bool _) rfl) ?_
          refine op_pure (pv_move (v := .bool _) rfl) ?_
          refine guard_yes rfl e0 ?_
          refine op_pure (pv_fieldAddr rfl rfl rfl rfl 6 rfl) ?_
          refine guard_yes rfl e0 ?_
          refine op_loadP 0 (v := .slice _ _ _) rfl rfl rfl rfl ?_
          refine guard_yes rfl e0 ?_
          refine op_pure (pv_len rfl rfl) ?_
          refine guard_yes rfl e0 ?_
          refine op_pure (pv_of (v := .bool _) rfl) ?_
          refine op_pure (pv_pickF rfl e0 (v := .bool _) rfl) ?_
          refine op_pure (pv_move (v := .bool _) rfl) ?_
          refine guard_yes rfl e1 ?_
          refine op_pure (pv_fieldAddr rfl rfl rfl rfl 7 rfl) ?_
          refine guard_yes rfl e1 ?_
          refine op_loadP 0 (v := .slice _ _ _) rfl rfl rfl rfl ?_
          refine guard_yes rfl e1 ?_
          refine op_pure (pv_len rfl rfl) ?_
          refine guard_yes rfl e1 ?_
          refine op_pure (pv_of (v := .bool _) rfl) ?_
          refine op_pure (pv_pickF rfl e1 (v := .bool _) rfl) ?_
          refine op_pure (pv_move (v := .bool _) rfl) ?_
          refine guard_yes rfl e2 ?_
          refine op_pure (pv_fieldAddr rfl rfl rfl rfl 8 rfl) ?_
          refine guard_yes rfl e2 ?_
          refine op_loadP 0 (v := .slice _ _ _) rfl rfl rfl rfl ?_
          refine guard_yes rfl e2 ?_
          refine op_pure (pv_len rfl rfl) ?_
          refine guard_yes rfl e2 ?_
          refine op_pure (pv_of (v := .bool _) rfl) ?_
          refine op_pure (pv_pickF rfl e2 (v := .bool _) rfl) ?_
          refine op_pure (pv_move (v := .bool _) rfl) ?_
          refine guard_no rfl e3 ?_
          refine guard_no rfl e3 ?_
          refine guard_no rfl e3 ?_
          refine guard_no rfl e3 ?_
          refine op_pure (pv_pickT rfl e3 (v := .bool _) rfl) ?_
          refine op_pure (pv_move (v := .bool _) rfl) ?_
          refine guard_no rfl rfl ?_
          refine guard_no rfl rfl ?_
          refine guard_no rfl rfl ?_
          refine guard_no rfl rfl ?_
          refine op_pure (pv_pickT rfl rfl (v := .bool _) rfl) ?_
          refine op_pure (pv_assign (v := .bool _) rfl) ?_
          refine xp_ret ?_
          refine res_list (vs := [_]) Try.results32 ⟨resV_tmp rfl rfl, trivial⟩ fun V => ?_
          exact ⟨(ext_wl V), boolE (by rw [largeB, e0, e1, e2, e3]; simp)⟩
        · skip
          rcases Bool.eq_false_or_eq_true (decide ((a.buttons.length : Int) > 20)) with e4 | e4
          · skip
            refine xp_seq ?_
            refine xp_region rfl ?_
            refine op_pure (pv_fieldAddr rfl rfl rfl rfl 5 rfl) ?_
            refine op_loadP 0 (v := .slice _ _ _) rfl rfl rfl rfl ?_
            refine op_pure (pv_len rfl rfl) ?_
            refine op_pure (pv_of (v := .bool _) rfl) ?_
            refine op_pure (pv_move (v := .bool _) rfl) ?_
            refine guard_yes rfl e0 ?_
            refine op_pure (pv_fieldAddr rfl rfl rfl rfl 6 rfl) ?_
            refine guard_yes rfl e0 ?_
            refine op_loadP 0 (v := .slice _ _ _) rfl rfl rfl rfl ?_
            refine guard_yes rfl e0 ?_
            refine op_pure (pv_len rfl rfl) ?_
            refine guard_yes rfl e0 ?_
            refine op_pure (pv_of (v := .bool _) rfl) ?_
            refine op_pure (pv_pickF rfl e0 (v := .bool _) rfl) ?_
            refine op_pure (pv_move (v := .bool _) rfl) ?_
            refine guard_yes rfl e1 ?_
            refine op_pure (pv_fieldAddr rfl rfl rfl rfl 7 rfl) ?_
            refine guard_yes rfl e1 ?_
            refine op_loadP 0 (v := .slice _ _ _) rfl rfl rfl rfl ?_
            refine guard_yes rfl e1 ?_
            refine op_pure (pv_len rfl rfl) ?_
            refine guard_yes rfl e1 ?_
            refine op_pure (pv_of (v := .bool _) rfl) ?_
            refine op_pure (pv_pickF rfl e1 (v := .bool _) rfl) ?_
            refine op_pure (pv_move (v := .bool _) rfl) ?_
            refine guard_yes rfl e2 ?_
            refine op_pure (pv_fieldAddr rfl rfl rfl rfl 8 rfl) ?_
            refine guard_yes rfl e2 ?_
            refine op_loadP 0 (v := .slice _ _ _) rfl rfl rfl rfl ?_
            refine guard_yes rfl e2 ?_
            refine op_pure (pv_len rfl rfl) ?_
            refine guard_yes rfl e2 ?_
            refine op_pure (pv_of (v := .bool _) rfl) ?_
            refine op_pure (pv_pickF rfl e2 (v := .bool _) rfl) ?_
            refine op_pure (pv_move (v := .bool _) rfl) ?_
            refine guard_yes rfl e3 ?_
            refine op_pure (pv_fieldAddr rfl rfl rfl rfl 0 rfl) ?_
            refine guard_yes rfl e3 ?_
            refine op_loadP 1 (v := .slice _ _ _) rfl rfl rfl rfl ?_
            refine guard_yes rfl e3 ?_
            refine op_pure (pv_len rfl rfl) ?_
            refine guard_yes rfl e3 ?_
            refine op_pure (pv_of (v := .bool _) rfl) ?_
            refine op_pure (pv_pickF rfl e3 (v := .bool _) rfl) ?_
            refine op_pure (pv_move (v := .bool _) rfl) ?_
            refine guard_no rfl e4 ?_
            refine guard_no rfl e4 ?_
            refine guard_no rfl e4 ?_
            refine guard_no rfl e4 ?_
            refine op_pure (pv_pickT rfl e4 (v := .bool _) rfl) ?_
            refine op_pure (pv_assign (v := .bool _) rfl) ?_
            refine xp_ret ?_
            refine res_list (vs := [_]) Try.results32 ⟨resV_tmp rfl rfl, trivial⟩ fun V => ?_
            exact ⟨(ext_wl V), boolE (by rw [largeB, e0, e1, e2, e3, e4]; simp)⟩
          · skip
            refine xp_seq ?_
            refine xp_region rfl ?_
            refine op_pure (pv_fieldAddr rfl rfl rfl rfl 5 rfl) ?_
            refine op_loadP 0 (v := .slice _ _ _) rfl rfl rfl rfl ?_
            refine op_pure (pv_len rfl rfl) ?_
            refine op_pure (pv_of (v := .bool _) rfl) ?_
            refine op_pure (pv_move (v := .bool _) rfl) ?_
            refine guard_yes rfl e0 ?_
            refine op_pure (pv_fieldAddr rfl rfl rfl rfl 6 rfl) ?_
            refine guard_yes rfl e0 ?_
            refine op_loadP 0 (v := .slice _ _ _) rfl rfl rfl rfl ?_
            refine guard_yes rfl e0 ?_
            refine op_pure (pv_len rfl rfl) ?_
            refine guard_yes rfl e0 ?_
            refine op_pure (pv_of (v := .bool _) rfl) ?_
            refine op_pure (pv_pickF rfl e0 (v := .bool _) rfl) ?_
            refine op_pure (pv_move (v := .bool _) rfl) ?_
            refine guard_yes rfl e1 ?_
            refine op_pure (pv_fieldAddr rfl rfl rfl rfl 7 rfl) ?_
            refine guard_yes rfl e1 ?_
            refine op_loadP 0 (v := .slice _ _ _) rfl rfl rfl rfl ?_
            refine guard_yes rfl e1 ?_
            refine op_pure (pv_len rfl rfl) ?_
            refine guard_yes rfl e1 ?_
            refine op_pure (pv_of (v := .bool _) rfl) ?_
            refine op_pure (pv_pickF rfl e1 (v := .bool _) rfl) ?_
            refine op_pure (pv_move (v := .bool _) rfl) ?_
            refine guard_yes rfl e2 ?_
            refine op_pure (pv_fieldAddr rfl rfl rfl rfl 8 rfl) ?_
            refine guard_yes rfl e2 ?_
            refine op_loadP 0 (v := .slice _ _ _) rfl rfl rfl rfl ?_
            refine guard_yes rfl e2 ?_
            refine op_pure (pv_len rfl rfl) ?_
            refine guard_yes rfl e2 ?_
            refine op_pure (pv_of (v := .bool _) rfl) ?_
            refine op_pure (pv_pickF rfl e2 (v := .bool _) rfl) ?_
            refine op_pure (pv_move (v := .bool _) rfl) ?_
            refine guard_yes rfl e3 ?_
            refine op_pure (pv_fieldAddr rfl rfl rfl rfl 0 rfl) ?_
            refine guard_yes rfl e3 ?_
            refine op_loadP 1 (v := .slice _ _ _) rfl rfl rfl rfl ?_
            refine guard_yes rfl e3 ?_
            refine op_pure (pv_len rfl rfl) ?_
            refine guard_yes rfl e3 ?_
            refine op_pure (pv_of (v := .bool _) rfl) ?_
            refine op_pure (pv_pickF rfl e3 (v := .bool _) rfl) ?_
            refine op_pure (pv_move (v := .bool _) rfl) ?_
            refine guard_yes rfl e4 ?_
            refine op_pure (pv_fieldAddr rfl rfl rfl rfl 1 rfl) ?_
            refine guard_yes rfl e4 ?_
            refine op_loadP 1 (v := .slice _ _ _) rfl rfl rfl rfl ?_
            refine guard_yes rfl e4 ?_
            refine op_pure (pv_len rfl rfl) ?_
            refine guard_yes rfl e4 ?_
            refine op_pure (pv_of (v := .bool _) rfl) ?_
            refine op_pure (pv_pickF rfl e4 (v := .bool _) rfl) ?_
            refine op_pure (pv_assign (v := .bool _) rfl) ?_
            refine xp_ret ?_
            refine res_list (vs := [_]) Try.results32 ⟨resV_tmp rfl rfl, trivial⟩ fun V => ?_
            exact ⟨(ext_wl V), boolE (by rw [largeB, e0, e1, e2, e3, e4]; rfl)⟩
theorem large_sml {m : MachP} {a : HandP} (h : largeB m a = false) : Sml m ∧ SmlH a := by
  simp only [largeB, Bool.or_eq_false_iff, decide_eq_false_iff_not] at h
  obtain ⟨⟨⟨⟨⟨h1, h2⟩, h3⟩, h4⟩, h5⟩, h6⟩ := h
  exact ⟨⟨by omega, by omega, by omega, by omega⟩, ⟨by omega, by omega⟩⟩
end
end Go.Proofs.Ythphpbdmbmiaiaa
/- Walks of the reference: Force, Depth, Chart, Chord of any machine. Conditions: as each theorem states. -/
namespace Go.Proofs.Ythphpbdmbmiaiaa
open Go Go.HL Go.Proofs Go.Wx Go.Rd
section
variable [Lvl]
set_option maxRecDepth 100000
theorem posN_min {l : List Int} {k : Nat} (hk : k < l.length) (h0 : 0 ≤ l[k]) : posN l (k + 1) = posN l k + min l[k] 1 := by
  rw [posN, getD_get hk]
  split <;> omega
theorem wgtN_min {ws l : List Int} {k : Nat} (hk : k < l.length) (hw : k < ws.length) (h0 : 0 ≤ l[k]) : wgtN ws l (k + 1) = wgtN ws l k + min l[k] 1 * ws[k] := by
  rw [wgtN, getD_get hk, getD_get hw]
  split
  · rw [show min l[k] 1 = 1 by omega, Int.one_mul]
  · rw [show min l[k] 1 = 0 by omega, Int.zero_mul, Int.add_zero]
theorem min_mul {x w : Int} (h0 : 0 ≤ x) (hw : 0 ≤ w ∧ w ≤ 50) : 0 ≤ min x 1 * w ∧ min x 1 * w ≤ 50 := by
  rcases (by omega : min x 1 = 0 ∨ min x 1 = 1) with e | e <;> rw [e] <;> omega
theorem posN_take {l : List Int} {n : Nat} : ∀ k, k ≤ n → posN (l.take n) k = posN l k
  | 0, _ => rfl
  | k + 1, h => by
    rw [posN, posN, posN_take k (by omega)]
    rw [List.getD_eq_getElem?_getD, List.getD_eq_getElem?_getD, List.getElem?_take_of_lt (by omega)]
theorem posN_stop {l : List Int} {n : Nat} (h : ∀ j, n ≤ j → l.getD j 0 = 0) : ∀ k, posN l (n + k) = posN l n
  | 0 => rfl
  | k + 1 => by
    rw [← Nat.add_assoc, posN, h (n + k) (by omega), if_neg (by decide), posN_stop h k]
theorem pos_turns {m : MachP} {a : HandP} (M : MOK m) (F : Fit m a) : posN (turnsR m a m.travel) m.rods.toNat = posN (turnedM m a m.travel) 6 := by
  have hr := M.rods
  have ht := M.travel
  rw [turnsR_eq M F, posN_take _ (Nat.le_refl _)]
  rw [show 6 = m.rods.toNat + (6 - m.rods.toNat) by omega, posN_stop]
  intro j hj
  have := turn_out M F (show 0 ≤ m.travel by omega) (r := (j : Int)) (by omega)
  rwa [turnF, Int.toNat_natCast] at this
set_option maxHeartbeats 4000000 in
theorem ForceG_ok (m : MachP) (S : Sml m) (a : HandP) (SH : SmlH a) (AB AQ AL AW HA OA : Option Addr) (cB cQ cL cW cH cO : Nat) (h : AH) (RM : MachR h AB AQ AL AW m) (RH : HandR h HA OA a) :
    FnT Try.prog 37 #[machV AB AQ AL AW cB cQ cL cW m, handV HA OA cH cO a] h (fun v _ => v = .tuple #[.int .i64 (forceV m a), .int .i64 (checkHandM m a)]) := by
  refine call_body Try.func37 rfl Try.ntmps37 rfl ?_
  refine xp_seq ?_
  refine xp_region rfl ?_
  refine op_box (v := .agg #[.int .i64 _, .int .i64 _, .int .i64 _, .int .i64 _, .int .i64 _, .slice _ _ _, .slice _ _ _, .slice _ _ _, .slice _ _ _]) (cs := [_, _, _, _, _, _, _, _, _]) rfl rfl fun b2 hb2 => ?_
  refine wp_norm [_] rfl ?_
  refine op_box (v := .agg #[.slice _ _ _, .slice _ _ _]) (cs := [_, _]) rfl rfl fun b3 hb3 => ?_
  refine wp_norm [_, _] rfl ?_
  refine op_pure (pv_assign (v := .int .i64 _) rfl) ?_
  refine op_pure (pv_assign (v := .int .i64 _) rfl) ?_
  refine xp_seq ?_
  refine xp_seq ?_
  refine xp_region rfl ?_
  refine op_loadPA 0 (vs := [.int .i64 _, .int .i64 _, .int .i64 _, .int .i64 _, .int .i64 _, .slice _ _ _, .slice _ _ _, .slice _ _ _, .slice _ _ _]) rfl rfl rfl rfl rfl ?_
  refine op_loadPA 1 (vs := [.slice _ _ _, .slice _ _ _]) rfl rfl rfl rfl rfl ?_
  refine op_fn (caps := []) (vs := [.agg #[.int .i64 _, .int .i64 _, .int .i64 _, .int .i64 _, .int .i64 _, .slice _ _ _, .slice _ _ _, .slice _ _ _, .slice _ _ _], .agg #[.slice _ _ _, .slice _ _ _]]) rfl rfl rfl (checkS_ok m S a SH AB AQ AL AW HA OA cB cQ cL cW cH cO h (RM.ext (Ext.refl _)) (RH.ext (Ext.refl _))) ?_
  rintro _ h3 E3 rfl
  refine op_pure (pv_assign (v := .int .i64 _) rfl) ?_
  refine xp_seq ?_
  refine xp_region rfl ?_
  refine op_pure (pv_move (v := .int .i64 _) rfl) ?_
  refine op_pure (pv_of (v := .bool _) rfl) ?_
  refine xp_cond rfl (fun hc => ?_) (fun hc => ?_)
  · skip
    have hc' : checkHandM m a ≠ 0 := by simpa using hc
    refine xp_seq ?_
    refine xp_region rfl ?_
    refine op_pure (pv_move (v := .int .i64 _) rfl) ?_
    refine op_pure (pv_assign (v := .int .i64 _) rfl) ?_
    refine op_pure (pv_assign (v := .int .i64 _) rfl) ?_
    refine xp_ret ?_
    refine res_list (vs := [_, _]) Try.results37 ⟨resV_tmp rfl rfl, resV_tmp rfl rfl, trivial⟩ fun V => ?_
    exact ⟨(Ext.trans E3 (ext_wl V)), by rw [forceV, if_neg hc']; rfl⟩
  · skip
    have hc' : checkHandM m a = 0 := by simpa using hc
    obtain ⟨M, H⟩ := checkHand_ok0 hc'
    have F := fit_of M H
    have tr := M.travel
    have lv := M.levers
    have rd := M.rods
    have wl := M.wl
    have hv : forceV m a = forceM m a := by rw [forceV, if_pos hc']
    have T1 := turnsR_ok m M a F m.travel (by omega) AB AQ AL AW HA OA cB cQ cL cW cH cO
    have L1 := liftsR_ok m M a F m.travel (by omega) AB AQ AL AW HA OA cB cQ cL cW cH cO
    rw [liftsR M F] at L1
    have ep := pos_turns M F
    have tl := turnsR_len m a m.travel
    have tb := turnsR_bd F (show 0 ≤ m.travel by omega) m.rods.toNat
    have ll := lifted_len m (turnedM m a m.travel)
    have lb : ∀ j (hj : j < (liftedM m (turnedM m a m.travel)).length), 0 ≤ (liftedM m (turnedM m a m.travel))[j] := fun j hj => by
      have hn := lift_nonneg m a m.travel (v := (j : Int)) (by omega) (by rw [ll] at hj; omega) M.pinl
      rw [liftF, Int.toNat_natCast] at hn
      rwa [getD_get hj] at hn
    rw [hv, hc', forceM, ← ep, ll]
    rw [show sweepN m a (startR m a m.travel) m.rods.toNat = turnsR m a m.travel from rfl] at tb
    generalize turnsR m a m.travel = t at *
    generalize liftedM m (turnedM m a m.travel) = l at *
    refine xp_skip ?_
    refine xp_seq ?_
    refine xp_region rfl ?_
    refine op_pure (pv_assign (v := .int .i64 _) rfl) ?_
    refine xp_seq ?_
    refine xp_dw [] rfl rfl rfl ?_
    refine dw_load (i := 0) rfl (by decide +kernel) ?_
    refine op_loadPA 0 (vs := [.int .i64 _, .int .i64 _, .int .i64 _, .int .i64 _, .int .i64 _, .slice _ _ _, .slice _ _ _, .slice _ _ _, .slice _ _ _]) rfl rfl rfl rfl rfl ?_
    refine dw_load (i := 1) rfl (by decide +kernel) ?_
    refine op_loadPA 1 (vs := [.slice _ _ _, .slice _ _ _]) rfl rfl rfl rfl rfl ?_
    refine dw_pure (i := 2) rfl (by decide +kernel) (pv_fieldAddr rfl rfl rfl rfl 3 rfl) ?_
    refine dw_load (i := 3) rfl (by decide +kernel) ?_
    refine op_loadP 0 (v := .int .i64 _) rfl rfl rfl rfl ?_
    refine dw_load (i := 5) rfl (by decide +kernel) ?_
    refine op_loadPA 0 (vs := [.int .i64 _, .int .i64 _, .int .i64 _, .int .i64 _, .int .i64 _, .slice _ _ _, .slice _ _ _, .slice _ _ _, .slice _ _ _]) rfl rfl rfl rfl rfl ?_
    refine dw_load (i := 6) rfl (by decide +kernel) ?_
    refine op_loadPA 1 (vs := [.slice _ _ _, .slice _ _ _]) rfl rfl rfl rfl rfl ?_
    refine dw_pure (i := 7) rfl (by decide +kernel) (pv_fieldAddr rfl rfl rfl rfl 3 rfl) ?_
    refine dw_load (i := 8) rfl (by decide +kernel) ?_
    refine op_loadP 0 (v := .int .i64 _) rfl rfl rfl rfl ?_
    refine dw_eff (i := 4) rfl (by decide +kernel) ?_
    refine op_fn (caps := []) (vs := [.agg #[.int .i64 _, .int .i64 _, .int .i64 _, .int .i64 _, .int .i64 _, .slice _ _ _, .slice _ _ _, .slice _ _ _, .slice _ _ _], .agg #[.slice _ _ _, .slice _ _ _], .int .i64 _]) rfl rfl rfl (T1 h3 (RM.ext E3) (RH.ext E3)) ?_
    rintro _ h4 E4 ⟨A4, c4, rfl, S4⟩
    refine ⟨ext_wlm E4 _, ?_⟩
    refine dw_last (i := 9) rfl (by decide +kernel) (by decide +kernel) ?_
    refine op_fn (caps := []) (vs := [.agg #[.int .i64 _, .int .i64 _, .int .i64 _, .int .i64 _, .int .i64 _, .slice _ _ _, .slice _ _ _, .slice _ _ _, .slice _ _ _], .agg #[.slice _ _ _, .slice _ _ _], .int .i64 _]) rfl rfl rfl (L1 h4 (RM.ext (Ext.trans E3 E4)) (RH.ext (Ext.trans E3 E4))) ?_
    rintro _ h5 E5 ⟨A5, c5, rfl, S5⟩
    refine dw_pure (i := 10) rfl (by decide +kernel) (pv_assign (v := .slice _ _ _) rfl) ?_
    refine dw_pure (i := 11) rfl (by decide +kernel) (pv_assign (v := .slice _ _ _) rfl) ?_
    refine dw_end rfl ?_
    refine xp_seq ?_
    refine xp_seq ?_
    refine xp_region rfl ?_
    refine op_pure (pv_assign (v := .int .i64 _) rfl) ?_
    refine xp_block ?_
    refine xp_loopB [7, 10, 28, 29, 30, 31, 32, 33, 34, 35, 36, 37, 38, 39, 40] 2 (α := Nat) (fun k => [(7, .int .i64 (posN t k)), (10, .int .i64 k)]) (fun k => _) (fun k h_k => k ≤ t.length) (fun k => t.length - k) (0) ⟨rfl, rfl, trivial⟩ (rfl) (Nat.zero_le _) ?_
    rintro k T1 h_k E_k J_k
    refine goes_norm [_, _] rfl ?_
    have pb := posN_bd t k
    refine xp_seq ?_
    refine xp_seq ?_
    refine xp_region rfl ?_
    refine op_pure (pv_move (v := .int .i64 _) rfl) ?_
    refine op_pure (pv_move (v := .slice _ _ _) rfl) ?_
    refine op_pure (pv_len rfl rfl) ?_
    refine op_pure (pv_of (v := .bool _) rfl) ?_
    refine xp_cond rfl (fun hk => ?_) (fun hk => ?_)
    · skip
      have hkl : k < t.length := ltI hk
      have tbk := tb k
      rw [getD_get hkl] at tbk
      obtain ⟨g, off, hA, hd⟩ := (S4.ext (Ext.trans E5 E_k)).at (by omega) hkl
      refine xp_skip ?_
      refine xp_seq ?_
      refine xp_block ?_
      refine xp_region rfl ?_
      refine op_pure (pv_move (v := .int .i64 _) rfl) ?_
      refine op_pure (pv_move (v := .slice _ _ _) rfl) ?_
      refine op_pure (pv_move (v := .int .i64 _) rfl) ?_
      refine op_pure (pv_indexE rfl hA rfl rfl rfl (by omega) (by omega)) ?_
      refine op_load (v := .int .i64 _) rfl rfl ((hd) 0 _ rfl) ?_
      refine op_pure (pv_min rfl rfl) ?_
      refine op_pure (pv_arith rfl (by omega)) ?_
      refine op_pure (pv_assign (v := .int .i64 _) rfl) ?_
      refine xp_region rfl ?_
      refine op_pure (pv_move (v := .int .i64 _) rfl) ?_
      refine op_pure (pv_arith rfl (by omega)) ?_
      refine op_pure (pv_assign (v := .int .i64 _) rfl) ?_
      refine ⟨k + 1, ⟨intE (posN_min hkl tbk.1).symm, rfl, trivial⟩, rfl, rfl, E_k, fun h3 E3 => hkl, by first | omega | (dsimp only; omega), ?_⟩
      repeat (first | exact off_base _ _ _ | refine off_upd (by decide) ?_ | refine off_updL rfl ?_ | refine off_mix rfl ?_)
    · skip
      have hke : k = m.rods.toNat := by have := geI hk; omega
      subst hke
      refine xp_exit ?_
      refine xp_seq ?_
      refine xp_seq ?_
      refine xp_region rfl ?_
      refine op_pure (pv_assign (v := .int .i64 _) rfl) ?_
      refine xp_block ?_
      refine xp_loopB [7, 11, 41, 42, 43, 44, 45, 46, 47, 48, 49, 50, 51, 52, 53, 54, 55, 56, 57, 58, 59] 2 (α := Nat) (fun i => [(7, .int .i64 (posN t m.rods.toNat + wgtN m.weights l i)), (11, .int .i64 i)]) (fun i => _) (fun i h_i => i ≤ l.length) (fun i => l.length - i) (0) ⟨(by rw [wgtN, Int.add_zero]; rfl), rfl, trivial⟩ (rfl) (Nat.zero_le _) ?_
      rintro i T2 h_i E_i J_i
      refine goes_norm [_, _] rfl ?_
      have wb := wgtN_bd m.weights l M.wt i
      refine xp_seq ?_
      refine xp_seq ?_
      refine xp_region rfl ?_
      refine op_pure (pv_move (v := .int .i64 _) rfl) ?_
      refine op_pure (pv_move (v := .slice _ _ _) rfl) ?_
      refine op_pure (pv_len rfl rfl) ?_
      refine op_pure (pv_of (v := .bool _) rfl) ?_
      refine xp_cond rfl (fun hk2 => ?_) (fun hk2 => ?_)
      · skip
        have hkl : i < l.length := ltI hk2
        have hiw : i < m.weights.length := by omega
        have lbi := lb i hkl
        have hw := M.wt _ (List.getElem_mem hiw)
        have hm := min_mul lbi hw
        obtain ⟨g, off, hA, hd⟩ := (S5.ext (Ext.trans E_k E_i)).at (by omega) hkl
        obtain ⟨g2, off2, hA2, hd2⟩ := (RM.w.ext (Ext.trans (Ext.trans (Ext.trans (Ext.trans E3 E4) E5) E_k) E_i)).at (by omega) hiw
        refine xp_skip ?_
        refine xp_seq ?_
        refine xp_block ?_
        refine xp_dw [] rfl rfl rfl ?_
        refine dw_pure (i := 0) rfl (by decide +kernel) (pv_move (v := .int .i64 _) rfl) ?_
        refine dw_pure (i := 1) rfl (by decide +kernel) (pv_move (v := .slice _ _ _) rfl) ?_
        refine dw_pure (i := 2) rfl (by decide +kernel) (pv_move (v := .int .i64 _) rfl) ?_
        refine dw_pure (i := 3) rfl (by decide +kernel) (pv_indexE rfl hA rfl rfl rfl (by omega) (by omega)) ?_
        refine dw_load (i := 4) rfl (by decide +kernel) ?_
        refine op_load (v := .int .i64 _) rfl rfl ((hd) 0 _ rfl) ?_
        refine dw_pure (i := 5) rfl (by decide +kernel) (pv_min rfl rfl) ?_
        refine dw_pure (i := 6) rfl (by decide +kernel) (pv_fieldAddr rfl rfl rfl rfl 8 rfl) ?_
        refine dw_load (i := 7) rfl (by decide +kernel) ?_
        refine op_loadP 0 (v := .slice _ _ _) rfl rfl rfl rfl ?_
        refine dw_pure (i := 8) rfl (by decide +kernel) (pv_move (v := .int .i64 _) rfl) ?_
        refine dw_pure (i := 9) rfl (by decide +kernel) (pv_indexE rfl hA2 rfl rfl rfl (by omega) (by omega)) ?_
        refine dw_load (i := 10) rfl (by decide +kernel) ?_
        refine op_load (v := .int .i64 _) rfl rfl ((hd2) 0 _ rfl) ?_
        refine dw_pure (i := 11) rfl (by decide +kernel) (pv_arith rfl ⟨by omega, by omega⟩) ?_
        refine dw_pure (i := 12) rfl (by decide +kernel) (pv_arith rfl (by omega)) ?_
        refine dw_pure (i := 13) rfl (by decide +kernel) (pv_assign (v := .int .i64 _) rfl) ?_
        refine dw_end rfl ?_
        refine xp_region rfl ?_
        refine op_pure (pv_move (v := .int .i64 _) rfl) ?_
        refine op_pure (pv_arith rfl (by omega)) ?_
        refine op_pure (pv_assign (v := .int .i64 _) rfl) ?_
        refine ⟨i + 1, ⟨intE (by rw [wgtN_min hkl hiw lbi, Int.add_assoc]), rfl, trivial⟩, rfl, rfl, E_i, fun h3 E3 => hkl, by first | omega | (dsimp only; omega), ?_⟩
        repeat (first | exact off_base _ _ _ | refine off_upd (by decide) ?_ | refine off_updL rfl ?_ | refine off_mix rfl ?_)
      · skip
        have hke : i = m.levers.toNat := by have := geI hk2; omega
        subst hke
        refine xp_exit ?_
        refine xp_seq ?_
        refine xp_region rfl ?_
        refine op_pure (pv_move (v := .int .i64 _) rfl) ?_
        refine op_pure (pv_assign (v := .int .i64 _) rfl) ?_
        refine op_pure (pv_assign (v := .int .i64 _) rfl) ?_
        refine xp_ret ?_
        refine res_list (vs := [_, _]) Try.results37 ⟨resV_tmp rfl rfl, resV_tmp rfl rfl, trivial⟩ fun V => ?_
        exact ⟨(Ext.trans (Ext.trans (Ext.trans (Ext.trans (Ext.trans E3 E4) E5) E_k) E_i) (ext_wl V)), rfl⟩
end
end Go.Proofs.Ythphpbdmbmiaiaa
/- Walks: more buttons, pins and links. Conditions: as each theorem states. -/
namespace Go.Proofs.Ythphpbdmbmiaiaa
open Go Go.HL Go.Proofs Go.Wx Go.Rd
section
variable [Lvl]
set_option maxRecDepth 100000
end
end Go.Proofs.Ythphpbdmbmiaiaa
/- The own logic, part Ud: machines, hands, links, events and what was heard, read out of a row's arguments. Conditions: none. -/
namespace Go.HL
open Go Go.Wx Go.RowKit Go.ChangeShapes Go.WideShapes
variable [Lvl]
section
variable {H : Type} {enc : TypeId × Value → H} {P : Program} {w : World} {base : Nat} {spare : Nat → Bool} {held : Bool}
theorem row_sliceC {α : Type} (en : α → List Value) {t e : TypeId} {m fuel : Nat} {cs : List Value} {x : DataW H × List MemPlace} (ht : P.underlying t = some (.slice e)) (hc : P.cellsOf e = m) (hm : 0 < m) (he : ∀ a, (en a).length = m)
    (leaf : ∀ n cs x, DataW.trod enc P w base spare held n e cs = some x → ∃ a, cs = en a) (h : DataW.trod enc P w base spare held fuel t cs = some x) :
    ∃ (A : Option Addr) (len cap : Nat) (l : List α), cs = [.slice A len cap] ∧ l.length = len ∧ Row (absH w.heap) m en A l ∧ len ≤ cap ∧ cap ≤ maxLen := by
  rcases Go.Deep.open_slice ht h with ⟨rfl, _⟩ | ⟨a, len, cap, mm, n, D, Pl, rfl, hb, hl, hmx, hmm, _, hel⟩
  · exact ⟨none, 0, 0, [], rfl, rfl, ⟨fun _ h => (by cases h), Rd.nil _ _⟩, Nat.le_refl _, Nat.zero_le _⟩
  · have hlm : len ≤ mm := by rw [hmm]; split <;> omega
    have key : ∀ i : _root_.Fin len, ∃ v : α, w.cells? base (a.add (i.val * m)) m = some (en v) := by
      intro i
      obtain ⟨cs', h1, h2⟩ := hel i.val (by have := i.isLt; omega)
      obtain ⟨v, rfl⟩ := leaf _ _ _ h2
      rw [hc] at h1
      exact ⟨v, h1⟩
    let l := List.ofFn fun i : _root_.Fin len => Classical.choose (key i)
    have hll : l.length = len := by simp [l]
    have hat : ∀ (i : Nat) (hi : i < l.length), w.cells? base (a.add (i * m)) m = some (en l[i]) := by
      intro i hi
      have := Classical.choose_spec (key ⟨i, by omega⟩)
      simpa [l] using this
    refine ⟨some a, len, cap, l, rfl, hll, ⟨fun x _ => he x, fun hne => ?_⟩, hl, hmx⟩
    have hpos : 0 < l.length := by
      rcases Nat.eq_zero_or_pos l.length with h0 | h0
      · rw [List.eq_nil_of_length_eq_zero h0] at hne; simp at hne
      · exact h0
    obtain ⟨g, off, sp⟩ := a
    have h0 := hat 0 hpos
    obtain ⟨_, _, hcell⟩ := World.cells?_some h0
    have h00 := hcell 0 hm
    rw [Go.Deep.add_add, Nat.zero_mul, Nat.add_zero, List.getElem?_eq_getElem (by rw [he]; exact hm)] at h00
    have hsp : sp = none := by
      cases sp with
      | none => rfl
      | some s =>
        exfalso
        have : w.cell? ((⟨g, off, some s⟩ : Addr).add 0) = none := by
          simp only [Addr.add]
          rw [cell_abs]
          unfold cellA
          split <;> simp
        rw [this] at h00
        cases h00
    subst hsp
    refine ⟨g, off, rfl, fun j u hu => ?_⟩
    have hj : j < l.length * m := by
      have := (List.getElem?_eq_some_iff.1 hu).1
      rwa [flat_len (fun x _ => he x)] at this
    have hi : j / m < l.length := Nat.div_lt_of_lt_mul (by rw [Nat.mul_comm]; exact hj)
    have hr : j % m < m := Nat.mod_lt _ hm
    have hjm : j / m * m + j % m = j := by rw [Nat.mul_comm]; exact Nat.div_add_mod j m
    obtain ⟨_, _, hcl⟩ := World.cells?_some (hat (j / m) hi)
    have h1 := hcl (j % m) hr
    have h2 : (en l[j / m])[j % m]? = some ((en l[j / m])[j % m]'(by rw [he]; exact hr)) := List.getElem?_eq_getElem _
    have h3 := flat_get en m l (fun x _ => he x) (j / m) _ (List.getElem?_eq_getElem hi) (j % m) _ h2
    rw [hjm, hu] at h3
    rw [h2, ← h3, Go.Deep.add_add, hjm, cell_abs, add_none] at h1
    exact h1
end
end Go.HL

namespace Go.Rd
structure EvP where
  kind : Int
  which : Int
end Go.Rd
namespace Go.Proofs.Ythphpbdmbmiaiaa
open Go Go.HL Go.Wx Go.Rd Go.RowKit Go.ChangeShapes Go.WideShapes
variable [Lvl]
set_option maxRecDepth 100000
theorem cellsT_int : Try.prog.cellsOf 3 = 1 := by kernel_rfl
theorem cellsT_ints : Try.prog.cellsOf 22 = 1 := by kernel_rfl
theorem cellsT_pins : Try.prog.cellsOf 25 = 1 := by kernel_rfl
theorem cellsT_links : Try.prog.cellsOf 26 = 1 := by kernel_rfl
theorem cellsT_pin : Try.prog.cellsOf 36 = 3 := by kernel_rfl
theorem cellsT_link : Try.prog.cellsOf 39 = 4 := by kernel_rfl
theorem cellsT_mach : Try.prog.cellsOf 28 = 9 := by kernel_rfl
theorem cellsT_hand : Try.prog.cellsOf 31 = 2 := by kernel_rfl
section
variable {H : Type} {enc : TypeId × Value → H} {w : World} {base : Nat} {spare : Nat → Bool} {held : Bool}
theorem ud_at {α : Type} {xs : List α} {n i : Nat} (h : xs.length = n) (hi : i < n) : ∃ y, xs[i]? = some y := ⟨_, List.getElem?_eq_getElem (by omega)⟩
theorem leaf_int {n : Nat} {cs : List Value} {x : DataW H × List MemPlace} (h : DataW.trod enc Try.prog w base spare held n 3 cs = some x) : ∃ z : Int, cs = [.int .i64 z] := by
  obtain ⟨z, e, _⟩ := DataW.trod_int Try.underlying3 h
  exact ⟨z, e⟩
theorem leaf_pin {n : Nat} {cs : List Value} {x : DataW H × List MemPlace} (h : DataW.trod enc Try.prog w base spare held n 36 cs = some x) : ∃ p : PinP, cs = pinC p := by
  obtain ⟨xs, m, _, _, hl, hx, hf⟩ := DataW.trod_struct Try.underlying36 h
  rw [cellsT_pin] at hl
  obtain ⟨y0, e0⟩ := ud_at (i := 0) hx (by decide)
  obtain ⟨a0, h0⟩ := leaf_int ((show DataW.trod enc Try.prog w base spare held m 3 ((cs.drop 0).take (Try.prog.cellsOf 3)) = xs[0]? from hf 0 _ rfl).trans e0)
  obtain ⟨y1, e1⟩ := ud_at (i := 1) hx (by decide)
  obtain ⟨a1, h1⟩ := leaf_int ((show DataW.trod enc Try.prog w base spare held m 3 ((cs.drop 1).take (Try.prog.cellsOf 3)) = xs[1]? from hf 1 _ rfl).trans e1)
  obtain ⟨y2, e2⟩ := ud_at (i := 2) hx (by decide)
  obtain ⟨a2, h2⟩ := leaf_int ((show DataW.trod enc Try.prog w base spare held m 3 ((cs.drop 2).take (Try.prog.cellsOf 3)) = xs[2]? from hf 2 _ rfl).trans e2)
  rw [cellsT_int] at h0 h1 h2
  match cs, hl with
  | [u0, u1, u2], _ =>
    simp at h0 h1 h2
    exact ⟨⟨a0, a1, a2⟩, by rw [h0, h1, h2]; rfl⟩
theorem leaf_link {n : Nat} {cs : List Value} {x : DataW H × List MemPlace} (h : DataW.trod enc Try.prog w base spare held n 39 cs = some x) : ∃ p : LinkP, cs = linkC p := by
  obtain ⟨xs, m, _, _, hl, hx, hf⟩ := DataW.trod_struct Try.underlying39 h
  rw [cellsT_link] at hl
  obtain ⟨y0, e0⟩ := ud_at (i := 0) hx (by decide)
  obtain ⟨a0, h0⟩ := leaf_int ((show DataW.trod enc Try.prog w base spare held m 3 ((cs.drop 0).take (Try.prog.cellsOf 3)) = xs[0]? from hf 0 _ rfl).trans e0)
  obtain ⟨y1, e1⟩ := ud_at (i := 1) hx (by decide)
  obtain ⟨a1, h1⟩ := leaf_int ((show DataW.trod enc Try.prog w base spare held m 3 ((cs.drop 1).take (Try.prog.cellsOf 3)) = xs[1]? from hf 1 _ rfl).trans e1)
  obtain ⟨y2, e2⟩ := ud_at (i := 2) hx (by decide)
  obtain ⟨a2, h2⟩ := leaf_int ((show DataW.trod enc Try.prog w base spare held m 3 ((cs.drop 2).take (Try.prog.cellsOf 3)) = xs[2]? from hf 2 _ rfl).trans e2)
  obtain ⟨y3, e3⟩ := ud_at (i := 3) hx (by decide)
  obtain ⟨a3, h3⟩ := leaf_int ((show DataW.trod enc Try.prog w base spare held m 3 ((cs.drop 3).take (Try.prog.cellsOf 3)) = xs[3]? from hf 3 _ rfl).trans e3)
  rw [cellsT_int] at h0 h1 h2 h3
  match cs, hl with
  | [u0, u1, u2, u3], _ =>
    simp at h0 h1 h2 h3
    exact ⟨⟨a0, a1, a2, a3⟩, by rw [h0, h1, h2, h3]; rfl⟩
/-- A hand's cells. -/
theorem leaf_hand {n : Nat} {cs : List Value} {x : DataW H × List MemPlace} (h : DataW.trod enc Try.prog w base spare held n 31 cs = some x) : ∃ (a : HandP) (HA OA : Option Addr) (cH cO : Nat), cs = [.slice HA a.buttons.length cH, .slice OA a.on.length cO] ∧ HandR (absH w.heap) HA OA a := by
  obtain ⟨xs, m, _, _, hl, hx, hf⟩ := DataW.trod_struct Try.underlying31 h
  rw [cellsT_hand] at hl
  obtain ⟨y0, e0⟩ := ud_at (i := 0) hx (by decide)
  obtain ⟨y1, e1⟩ := ud_at (i := 1) hx (by decide)
  obtain ⟨A0, n0, c0, l0, h0, k0, R0, hc0, _⟩ := row_sliceC intC Try.underlying22 cellsT_int (by omega) (fun _ => rfl) (fun _ _ _ => leaf_int) ((show DataW.trod enc Try.prog w base spare held m 22 ((cs.drop 0).take (Try.prog.cellsOf 22)) = xs[0]? from hf 0 _ rfl).trans e0)
  obtain ⟨A1, n1, c1, l1, h1, k1, R1, hc1, _⟩ := row_sliceC intC Try.underlying22 cellsT_int (by omega) (fun _ => rfl) (fun _ _ _ => leaf_int) ((show DataW.trod enc Try.prog w base spare held m 22 ((cs.drop 1).take (Try.prog.cellsOf 22)) = xs[1]? from hf 1 _ rfl).trans e1)
  rw [cellsT_ints] at h0 h1
  match cs, hl with
  | [u0, u1], _ =>
    simp at h0 h1
    exact ⟨⟨l0, l1⟩, A0, A1, c0, c1, by rw [h0, h1, ← k0, ← k1], ⟨R0, R1⟩⟩
/-- A hand that came in. -/
theorem hand_in {r : Reach} {b0 : Nat} {v : Value} {d : DataW H} {p : List MemPlace} (hv : Value.okWide Try.prog w r b0 31 v) (h : DataW.Trod enc Try.prog w base spare held 31 v d p) :
    ∃ (a : HandP) (HA OA : Option Addr) (cH cO : Nat), v = handV HA OA cH cO a ∧ HandR (absH w.heap) HA OA a := by
  obtain ⟨cs, rfl, hs⟩ := okWide_struct Try.underlying31 hv
  obtain ⟨fuel, hf0⟩ := h
  have hcs : (Value.agg cs).cells.toList = cs.toList := rfl
  rw [hcs] at hf0
  obtain ⟨a, HA, OA, cH, cO, e, R⟩ := leaf_hand hf0
  exact ⟨a, HA, OA, cH, cO, by rw [handV, ← e], R⟩
/-- A machine that came in. -/
theorem mach_in {r : Reach} {b0 : Nat} {v : Value} {d : DataW H} {p : List MemPlace} (hv : Value.okWide Try.prog w r b0 28 v) (h : DataW.Trod enc Try.prog w base spare held 28 v d p) :
    ∃ (m : MachP) (AB AQ AL AW : Option Addr) (cB cQ cL cW : Nat), v = machV AB AQ AL AW cB cQ cL cW m ∧ MachR (absH w.heap) AB AQ AL AW m ∧ m.pins.length ≤ cQ ∧ m.links.length ≤ cL := by
  obtain ⟨⟨cs⟩, rfl, hs⟩ := okWide_struct Try.underlying28 hv
  obtain ⟨fuel, hf0⟩ := h
  have hcs : (Value.agg ⟨cs⟩).cells.toList = cs := rfl
  rw [hcs] at hf0
  obtain ⟨xs, m, _, _, hl, hx, hf⟩ := DataW.trod_struct Try.underlying28 hf0
  rw [cellsT_mach] at hl
  obtain ⟨y0, e0⟩ := ud_at (i := 0) hx (by decide)
  obtain ⟨y1, e1⟩ := ud_at (i := 1) hx (by decide)
  obtain ⟨y2, e2⟩ := ud_at (i := 2) hx (by decide)
  obtain ⟨y3, e3⟩ := ud_at (i := 3) hx (by decide)
  obtain ⟨y4, e4⟩ := ud_at (i := 4) hx (by decide)
  obtain ⟨y5, e5⟩ := ud_at (i := 5) hx (by decide)
  obtain ⟨y6, e6⟩ := ud_at (i := 6) hx (by decide)
  obtain ⟨y7, e7⟩ := ud_at (i := 7) hx (by decide)
  obtain ⟨y8, e8⟩ := ud_at (i := 8) hx (by decide)
  obtain ⟨a0, h0⟩ := leaf_int ((show DataW.trod enc Try.prog w base spare held m 3 ((cs.drop 0).take (Try.prog.cellsOf 3)) = xs[0]? from hf 0 _ rfl).trans e0)
  obtain ⟨a1, h1⟩ := leaf_int ((show DataW.trod enc Try.prog w base spare held m 3 ((cs.drop 1).take (Try.prog.cellsOf 3)) = xs[1]? from hf 1 _ rfl).trans e1)
  obtain ⟨a2, h2⟩ := leaf_int ((show DataW.trod enc Try.prog w base spare held m 3 ((cs.drop 2).take (Try.prog.cellsOf 3)) = xs[2]? from hf 2 _ rfl).trans e2)
  obtain ⟨a3, h3⟩ := leaf_int ((show DataW.trod enc Try.prog w base spare held m 3 ((cs.drop 3).take (Try.prog.cellsOf 3)) = xs[3]? from hf 3 _ rfl).trans e3)
  obtain ⟨a4, h4⟩ := leaf_int ((show DataW.trod enc Try.prog w base spare held m 3 ((cs.drop 4).take (Try.prog.cellsOf 3)) = xs[4]? from hf 4 _ rfl).trans e4)
  obtain ⟨A5, n5, c5, l5, h5, k5, R5, hc5, _⟩ := row_sliceC intC Try.underlying22 cellsT_int (by omega) (fun _ => rfl) (fun _ _ _ => leaf_int) ((show DataW.trod enc Try.prog w base spare held m 22 ((cs.drop 5).take (Try.prog.cellsOf 22)) = xs[5]? from hf 5 _ rfl).trans e5)
  obtain ⟨A6, n6, c6, l6, h6, k6, R6, hc6, _⟩ := row_sliceC pinC Try.underlying25 cellsT_pin (by omega) (fun _ => rfl) (fun _ _ _ => leaf_pin) ((show DataW.trod enc Try.prog w base spare held m 25 ((cs.drop 6).take (Try.prog.cellsOf 25)) = xs[6]? from hf 6 _ rfl).trans e6)
  obtain ⟨A7, n7, c7, l7, h7, k7, R7, hc7, _⟩ := row_sliceC linkC Try.underlying26 cellsT_link (by omega) (fun _ => rfl) (fun _ _ _ => leaf_link) ((show DataW.trod enc Try.prog w base spare held m 26 ((cs.drop 7).take (Try.prog.cellsOf 26)) = xs[7]? from hf 7 _ rfl).trans e7)
  obtain ⟨A8, n8, c8, l8, h8, k8, R8, hc8, _⟩ := row_sliceC intC Try.underlying22 cellsT_int (by omega) (fun _ => rfl) (fun _ _ _ => leaf_int) ((show DataW.trod enc Try.prog w base spare held m 22 ((cs.drop 8).take (Try.prog.cellsOf 22)) = xs[8]? from hf 8 _ rfl).trans e8)
  rw [cellsT_int] at h0 h1 h2 h3 h4
  rw [cellsT_ints] at h5 h8
  rw [cellsT_pins] at h6
  rw [cellsT_links] at h7
  match cs, hl with
  | [u0, u1, u2, u3, u4, u5, u6, u7, u8], _ =>
    simp at h0 h1 h2 h3 h4 h5 h6 h7 h8
    refine ⟨⟨a0, a1, a2, a3, a4, l5, l6, l7, l8⟩, A5, A6, A7, A8, c5, c6, c7, c8, ?_, ⟨R5, R6, R7, R8⟩, by show l6.length ≤ c6; omega, by show l7.length ≤ c7; omega⟩
    rw [h0, h1, h2, h3, h4, h5, h6, h7, h8, ← k5, ← k6, ← k7, ← k8]
theorem link_in {r : Reach} {b0 : Nat} {v : Value} {d : DataW H} {p : List MemPlace} (hv : Value.okWide Try.prog w r b0 39 v) (h : DataW.Trod enc Try.prog w base spare held 39 v d p) :
    ∃ q : LinkP, v = .agg (linkC q).toArray := by
  obtain ⟨cs, rfl, hs⟩ := okWide_struct Try.underlying39 hv
  obtain ⟨fuel, hf0⟩ := h
  obtain ⟨q, e⟩ := leaf_link hf0
  have hcs : (Value.agg cs).cells.toList = cs.toList := rfl
  rw [hcs] at e
  exact ⟨q, by rw [← e]⟩
theorem ints_in {r : Reach} {b0 : Nat} {v : Value} {d : DataW H} {p : List MemPlace} (hv : Value.okWide Try.prog w r b0 22 v) (h : DataW.Trod enc Try.prog w base spare held 22 v d p) :
    ∃ (l : List Int) (A : Option Addr) (c : Nat), v = .slice A l.length c ∧ Row (absH w.heap) 1 intC A l ∧ l.length ≤ maxLen := by
  obtain ⟨a0, len0, cap0, rfl⟩ := okWide_slice Try.underlying22 hv
  obtain ⟨fuel, hf⟩ := h
  obtain ⟨A, n, c, l, e, k, R, h1, h2⟩ := row_sliceC intC Try.underlying22 cellsT_int (by omega) (fun _ => rfl) (fun _ _ _ => leaf_int) hf
  have hcs : (Value.slice a0 len0 cap0).cells.toList = [.slice a0 len0 cap0] := rfl
  rw [hcs] at e
  simp at e
  obtain ⟨rfl, rfl, rfl⟩ := e
  subst k
  exact ⟨l, _, _, rfl, R, Nat.le_trans h1 h2⟩
end
end Go.Proofs.Ythphpbdmbmiaiaa
/- The own logic, part GU: slice literals of things of many cells. Conditions: none. -/
namespace Go.HL
open Go
variable [Lvl]
theorem wrL_mid : ∀ (c pre j : List Value), c.length ≤ j.length → wrL (pre ++ j) pre.length c = pre ++ c ++ j.drop c.length
  | [], pre, j, _ => by simp [wrL]
  | v :: c, pre, [], h => absurd h (by simp)
  | v :: c, pre, x :: j, h => by
    have e : (pre ++ x :: j).set pre.length v = (pre ++ [v]) ++ j := by simp
    have ih := wrL_mid c (pre ++ [v]) j (by simpa using h)
    rw [List.length_append, List.length_singleton] at ih
    rw [wrL, e, ih]
    simp
/-- What is put where, in a row of things. -/
def rowP : Nat → List (List Value) → List (Nat × Value)
  | _, [] => []
  | k, c :: els => (k, .agg c.toArray) :: rowP (k + 1) els
theorem fill_row {m : Nat} : ∀ (els : List (List Value)) (k : Nat) (pre j : List Value), (∀ c ∈ els, c.length = m) → pre.length = k * m → j.length = els.length * m → fillL (fun i => some (i * m, m)) (pre ++ j) (rowP k els) = some (pre ++ els.flatMap id)
  | [], k, pre, j, _, _, hj => by
    have : j = [] := List.length_eq_zero_iff.1 (by simpa using hj)
    subst this
    rfl
  | c :: els, k, pre, j, hm, hp, hj => by
    have hc := hm c (List.mem_cons_self ..)
    have hj' : j.length = els.length * m + m := by rw [hj, List.length_cons, Nat.add_mul, Nat.one_mul]
    have e1 : ((Value.agg c.toArray).cells.size == m && Nat.ble (k * m + m) (pre ++ j).length) = true := by
      rw [Bool.and_eq_true]
      refine ⟨by show (c.toArray.size == m) = true; simp [hc], Nat.ble_eq_true_of_le ?_⟩
      rw [List.length_append]
      omega
    have e2 : wrL (pre ++ j) (k * m) (Value.agg c.toArray).cells.toList = (pre ++ c) ++ j.drop m := by
      rw [← hp, show (Value.agg c.toArray).cells.toList = c from rfl, wrL_mid c pre j (by omega), hc]
    rw [rowP, fillL]
    simp only
    rw [if_pos e1, e2]
    rw [fill_row els (k + 1) (pre ++ c) (j.drop m) (fun x hx => hm x (List.mem_cons_of_mem _ hx)) (by rw [List.length_append, hp, hc, Nat.add_mul, Nat.one_mul]) (by rw [List.length_drop, hj']; omega)]
    simp
variable {P : Program} {n : Nat} {ops : Array Oper} {os : List Oper} {K : Sl → Pv → AH → Prop} {E : Value → Sl → Pv → AH → Prop} {S : Sl} {L : Pv} {h : AH} {d : Option Tmp} {ty : TypeId} {ps : String} {af : Array Edge}
/-- A slice literal of things of m cells. -/
theorem op_buildSliceR (els : List (List Value)) {t e : TypeId} {m len : Nat} {z : Value} {zc : List Value} {pts : List (Nat × Operand)} (ht : pev P (underlying t) = some (.slice e)) (hs : pev P (sizeOf e) = some m)
    (hz : pev P (zeroValue e) = some z) (hzc : z.cells = zc.toArray) (hl : Nat.ble (len * m) 16777216 = true) (hn : els.length = len) (hm : els.all (fun c => c.length == m) = true) (hv : pts.map (fun q => (q.1, ev n S q.2)) = rowP 0 els)
    (k : ∀ b, wl h L b = none → wpL P n ops os K E (put S d (.slice (some ⟨b, 0, none⟩) len len)) (L ++ [some (b, .cells (els.flatMap id).toArray e (0, 0))]) h) : wpL P n ops (⟨d, .buildSlice t len pts.toArray, ty, ps, af, none⟩ :: os) K E S L h := by
  refine op_buildSlice ht hs hz hzc hl hv ?_ k
  have := fill_row (m := m) els 0 [] ((List.range (len * m)).map fun i => zc[i % zc.length]!) (fun c hc => by have := List.all_eq_true.1 hm c hc; simpa using this) (by simp) (by simp [hn])
  simpa using this
end Go.HL
/- Walks: RodSounds. Conditions: as each theorem states. -/
namespace Go.Proofs.Ythphpbdmbmiaiaa
open Go Go.HL Go.Proofs Go.Wx Go.Rd
section
variable [Lvl]
set_option maxRecDepth 100000
theorem all4 {α : Type} {p : α → Prop} {a b c d : α} (ha : p a) (hb : p b) (hc : p c) (hd : p d) : ∀ x ∈ [a, b, c, d], p x := fun x hx => by
  simp only [List.mem_cons, List.not_mem_nil, or_false] at hx
  rcases hx with rfl | rfl | rfl | rfl <;> assumption
theorem els4 {α : Type} {h : AH} {T : AH → α → List Value → Prop} {a b c d : α} {ca cb cc cd : List Value} (ha : T h a ca) (hb : T h b cb) (hc : T h c cc) (hd : T h d cd) : Els h T [a, b, c, d] [ca, cb, cc, cd] :=
  (((Els.nil h T).snoc ha).snoc hb).snoc hc |>.snoc hd
theorem th_of {h : AH} {a : HandP} {HA OA : Option Addr} {cH cO : Nat} (R : HandR h HA OA a) : TH h a [.slice HA a.buttons.length cH, .slice OA a.on.length cO] := ⟨_, _, rfl, ⟨HA, cH, rfl, R.b⟩, ⟨OA, cO, rfl, R.o⟩⟩
theorem turns_le (m : MachP) (a : HandP) : (turnsL m a).length ≤ 6 := by
  unfold turnsL
  split
  · have := turned_len m a m.travel
    rw [List.length_take]
    omega
  · simp
theorem lifts_le (m : MachP) (a : HandP) : (liftsL m a).length ≤ 6 := by
  unfold liftsL
  split
  · rename_i h
    have := (checkHand_ok0 h).1.levers
    rw [lifted_len]
    omega
  · simp
theorem sounds_le (m : MachP) (a : HandP) : (soundsL m a).length ≤ 6 := by
  unfold soundsL
  split
  · exact listN_len _ 6
  · simp
theorem sameHandsS_ok (a : HandP) (HA OA HB OB : Option Addr) (cA oA cB oB : Nat) (h : AH) (Ra : HandR h HA OA a) (Rb : HandR h HB OB a) (h1 : a.buttons.length < 2 ^ 40) (h2 : a.on.length < 2 ^ 40) :
    FnT Try.prog 42 #[handV HA OA cA oA a, handV HB OB cB oB a] h (fun v _ => v = .bool true) :=
  (sameHands_ok a a HA OA HB OB cA oA cB oB h Ra Rb h1 h2).mono (fun v _ e => ⟨e.1, e.2.trans (boolE (by simp))⟩) fun _ _ e => e
theorem AccR.room {e : TypeId} {m : Nat} {cs : List Value} {a : Acc} (r : AccR e m cs a) (hm : 0 < m) : a.n ≤ a.c := by
  rcases r with ⟨_, _, A, ev⟩ | ⟨b, len, cap, junk, hl, ev, _, hc⟩
  · injection ev with _ h1 h2; omega
  · injection ev with _ h1 h2
    rw [List.length_append, hl] at hc
    have : len * m ≤ cap * m := by omega
    have := Nat.le_of_mul_le_mul_right this hm
    omega
theorem Made.sml {s p l : Int} {m : MachP} (M : Made s p l m) : Sml m := by
  have h1 := M.ok.bl
  have h2 := M.ok.pl
  have h3 := M.ok.ll
  have h4 := M.ok.wl
  have h5 := M.ok.levers
  exact ⟨by omega, by omega, by omega, by omega⟩
theorem HOK.sml {m : MachP} {a : HandP} (M : MOK m) (H : HOK m a) : SmlH a := by
  have F := fit_of M H
  have h1 := F.hl
  have h2 := F.ol
  exact ⟨by omega, by omega⟩
set_option maxHeartbeats 8000000 in
theorem sounds_runs (w : World) (m0 : MachP) (AB0 AQ0 AL0 AW0 : Option Addr) (cB0 cQ0 cL0 cW0 : Nat) (RM0 : MachR (absH w.heap) AB0 AQ0 AL0 AW0 m0) (u1 : m0.pins.length ≤ cQ0) (u2 : m0.links.length ≤ cL0) (a0 : HandP) (HA0 OA0 : Option Addr) (cH0 cO0 : Nat) (RH0 : HandR (absH w.heap) HA0 OA0 a0) (lk : LinkP) (l : List Int) (A : Option Addr) (c : Nat) (R : Row (absH w.heap) 1 intC A l) (hl : l.length < 2 ^ 63) :
    RunsTrue Try.prog 6 #[machV AB0 AQ0 AL0 AW0 cB0 cQ0 cL0 cW0 m0, handV HA0 OA0 cH0 cO0 a0, .agg (linkC lk).toArray, .slice A l.length c] w := by
  letI : Lvl := ⟨true, none, none⟩
  refine runs_body Try.func6 rfl Try.ntmps6 rfl Try.results6 rfl (by kernel_rfl) fun h hh => ?_
  rw [← hh] at RM0 RH0 R
  refine xp_seq ?_
  refine xp_region rfl ?_
  refine op_box (v := .agg #[.int .i64 _, .int .i64 _, .int .i64 _, .int .i64 _, .int .i64 _, .slice _ _ _, .slice _ _ _, .slice _ _ _, .slice _ _ _]) (cs := [_, _, _, _, _, _, _, _, _]) rfl rfl fun b4 hb4 => ?_
  refine wp_norm [_] rfl ?_
  refine op_box (v := .agg #[.slice _ _ _, .slice _ _ _]) (cs := [_, _]) rfl rfl fun b5 hb5 => ?_
  refine wp_norm [_, _] rfl ?_
  refine op_box (v := .agg #[.int .i64 _, .int .i64 _, .int .i64 _, .int .i64 _]) (cs := [_, _, _, _]) rfl rfl fun b6 hb6 => ?_
  refine wp_norm [_, _, _] rfl ?_
  refine op_pure (pv_assign (v := .bool _) rfl) ?_
  refine xp_seq ?_
  refine xp_seq ?_
  refine xp_region rfl ?_
  refine op_loadPA 0 (vs := [.int .i64 _, .int .i64 _, .int .i64 _, .int .i64 _, .int .i64 _, .slice _ _ _, .slice _ _ _, .slice _ _ _, .slice _ _ _]) rfl rfl rfl rfl rfl ?_
  refine op_loadPA 1 (vs := [.slice _ _ _, .slice _ _ _]) rfl rfl rfl rfl rfl ?_
  refine op_fn (caps := []) (vs := [.agg _, .agg _]) rfl rfl rfl (large_ok m0 a0 AB0 AQ0 AL0 AW0 HA0 OA0 cB0 cQ0 cL0 cW0 cH0 cO0 h) ?_
  rintro _ g0 G0 rfl
  refine xp_cond rfl (fun hL => ?_) (fun hL => ?_)
  · skip
    refine xp_seq ?_
    refine xp_region rfl ?_
    refine op_fn (caps := []) (vs := []) rfl rfl rfl (rod_sounding rfl g0) ?_
    rintro _ h26 E26 rfl
    refine op_pure (pv_assign (v := .bool _) rfl) ?_
    refine xp_ret ?_
    exact ⟨rfl, fun V => (Ext.trans (Ext.trans G0 E26) (ext_wl V)), rfl⟩
  · skip
    obtain ⟨S0, SH0⟩ := large_sml hL
    refine xp_skip ?_
    refine xp_seq ?_
    refine xp_region rfl ?_
    refine op_pure (pv_move (v := .slice _ _ _) rfl) ?_
    refine op_fnMM [_, _, _] [] [] rfl rfl rfl ((NewPot_ok l hl A c g0 (R.ext G0))) ?_
    rintro _ h1 _ E1 ⟨b, x, rfl, rfl⟩
    refine wp_norm [_, _, _, _] rfl ?_
    refine op_pure (pv_assign (v := .pointer _) rfl) ?_
    refine xp_seq ?_
    refine xp_region rfl ?_
    refine op_pure (pv_move (v := .pointer _) rfl) ?_
    refine op_fnMM [_, _, _] [_] [] (vs := _) rfl rfl rfl ((MachineOf_okC b x 6 8 4 (by omega) (by omega) (by omega) h1)) ?_
    rintro _ h2 _ E2 ⟨x2, m, rfl, VM, Md, hCap⟩
    refine wp_norm [_, _, _, _] rfl ?_
    obtain ⟨AB, AQ, AL, AW, cB, cQ, cL, cW, rfl, RM⟩ := VM.open
    obtain ⟨hcQ, hcL⟩ := hCap _ _ _ _ _ _ _ _ _ rfl
    have M := Md.ok
    have mbl := M.bl
    have mpl := M.pl
    have mll := M.ll
    have mrd := M.rods
    have mlv := M.levers
    have mrg := M.regs
    have mtr := M.travel
    have mwl := M.wl
    refine op_alloc (cs := [_, _, _, _, _, _, _, _, _]) rfl rfl fun b10 hb10 => ?_
    refine wp_norm [_, _, _, _, _] rfl ?_
    refine op_storeP 4 (v := .agg #[.int .i64 _, .int .i64 _, .int .i64 _, .int .i64 _, .int .i64 _, .slice _ _ _, .slice _ _ _, .slice _ _ _, .slice _ _ _]) (vs := [_, _, _, _, _, _, _, _, _]) (c' := [_, _, _, _, _, _, _, _, _]) rfl rfl rfl rfl rfl rfl rfl rfl rfl ?_
    refine wp_norm [_, _, _, _, _] rfl ?_
    refine xp_seq ?_
    refine xp_region rfl ?_
    refine op_pure (pv_move (v := .pointer _) rfl) ?_
    refine op_loadPA 4 (vs := [.int .i64 _, .int .i64 _, .int .i64 _, .int .i64 _, .int .i64 _, .slice _ _ _, .slice _ _ _, .slice _ _ _, .slice _ _ _]) rfl rfl rfl rfl rfl ?_
    refine op_fnMM [_, _, _] [_] [_] (vs := _) rfl rfl rfl ((HandOf_ok b x2 m (by omega) (by omega) AB AQ AL AW cB cQ cL cW h2)) ?_
    rintro _ h3 _ E3 ⟨x3, a, rfl, VH, H⟩
    refine wp_norm [_, _, _, _, _] rfl ?_
    obtain ⟨HA, OA, cH, cO, rfl, RH⟩ := VH.open
    refine op_alloc (cs := [_, _]) rfl rfl fun b11 hb11 => ?_
    refine wp_norm [_, _, _, _, _, _] rfl ?_
    refine op_storeP 5 (v := .agg #[.slice _ _ _, .slice _ _ _]) (vs := [_, _]) (c' := [_, _]) rfl rfl rfl rfl rfl rfl rfl rfl rfl ?_
    refine wp_norm [_, _, _, _, _, _] rfl ?_
    refine xp_seq ?_
    refine xp_region rfl ?_
    refine op_loadPA 4 (vs := [.int .i64 _, .int .i64 _, .int .i64 _, .int .i64 _, .int .i64 _, .slice _ _ _, .slice _ _ _, .slice _ _ _, .slice _ _ _]) rfl rfl rfl rfl rfl ?_
    refine op_fnMM [_, _, _, _, _, _] [] [] rfl rfl rfl (CopyMachine_okM m AB AQ AL AW cB cQ cL cW h3 (RM.ext E3) (by omega) (by omega) (by omega) (by omega)) ?_
    rintro _ h4 _ E4 ⟨a1, a4, a2, a3, rfl, rfl, ha1, ha2, ha3, ha4⟩
    refine wp_norm [_, _, _, _, _, _, _, _, _, _] rfl ?_
    refine op_alloc (cs := [_, _, _, _, _, _, _, _, _]) rfl rfl fun b12 hb12 => ?_
    refine wp_norm [_, _, _, _, _, _, _, _, _, _, _] rfl ?_
    refine op_storeP 10 (v := .agg #[.int .i64 _, .int .i64 _, .int .i64 _, .int .i64 _, .int .i64 _, .slice _ _ _, .slice _ _ _, .slice _ _ _, .slice _ _ _]) (vs := [_, _, _, _, _, _, _, _, _]) (c' := [_, _, _, _, _, _, _, _, _]) rfl rfl rfl rfl rfl rfl rfl rfl rfl ?_
    refine wp_norm [_, _, _, _, _, _, _, _, _, _, _] rfl ?_
    refine xp_seq ?_
    refine xp_region rfl ?_
    refine op_pure (pv_fieldAddr rfl rfl rfl rfl 7 rfl) ?_
    refine op_loadP 10 (v := .slice _ _ _) rfl rfl rfl rfl ?_
    refine op_loadPA 2 (vs := [.int .i64 _, .int .i64 _, .int .i64 _, .int .i64 _]) rfl rfl rfl rfl rfl ?_
    refine op_buildSlice (zc := [_, _, _, _]) (vs := [(0, .agg #[.int .i64 _, .int .i64 _, .int .i64 _, .int .i64 _])]) (cs := [_, _, _, _]) rfl rfl rfl rfl rfl rfl rfl fun b50 hb50 => ?_
    refine wp_norm [_, _, _, _, _, _, _, _, _, _, _, _] rfl ?_
    refine op_appendR 9 ha3 rfl rfl rfl (fun V => rdP V (i := 11) rfl) rfl rfl rfl rfl rfl rfl rfl rfl rfl (by omega) rfl (by rw [flat_len (m := 4) (fun _ _ => rfl)]; simp; omega) fun a5 h1a E1a ha5 => ?_
    refine wp_norm [_, _, _, _, _, _, _, _, _, _, _, _] rfl ?_
    have ha5 : AccR 39 4 ((m.links ++ [lk]).flatMap linkC) a5 := by rw [List.flatMap_append]; exact ha5
    have rm2 := AccR.room ha2 (by omega)
    have rm5 := AccR.room ha5 (by omega)
    obtain ⟨p1, A1, n1, c1⟩ := a1
    obtain ⟨p4, A4, n4, c4⟩ := a4
    obtain ⟨p2, A2, n2, c2⟩ := a2
    obtain ⟨p5, A5, n5, c5⟩ := a5
    obtain rfl : n1 = m.buttons.length := by have := AccR.len ha1; rw [flat_len (m := 1) (fun _ _ => rfl)] at this; dsimp only at this; omega
    obtain rfl : n4 = m.weights.length := by have := AccR.len ha4; rw [flat_len (m := 1) (fun _ _ => rfl)] at this; dsimp only at this; omega
    obtain rfl : n2 = m.pins.length := by have := AccR.len ha2; rw [flat_len (m := 3) (fun _ _ => rfl)] at this; dsimp only at this; omega
    obtain rfl : n5 = (m.links ++ [lk]).length := by have := AccR.len ha5; rw [flat_len (m := 4) (fun _ _ => rfl)] at this; dsimp only at this; omega
    dsimp only at *
    refine op_pure (pv_fieldAddr rfl rfl rfl rfl 7 rfl) ?_
    refine op_storeP 10 (v := .slice _ _ _) (vs := [_]) (c' := [_, _, _, _, _, _, _, _, _]) rfl rfl rfl rfl rfl rfl rfl rfl rfl ?_
    refine wp_norm [_, _, _, _, _, _, _, _, _, _, _, _] rfl ?_
    refine goes_pubO 6 rfl ?_
    intro g1 G1 P1
    refine goes_norm [_, _, _, _, _, _, _, _, _, _, _, _] rfl ?_
    refine goes_pubO 7 rfl ?_
    intro g4 G4 P4
    refine goes_norm [_, _, _, _, _, _, _, _, _, _, _, _] rfl ?_
    refine goes_pubO 8 rfl ?_
    intro g2 G2 P2
    refine goes_norm [_, _, _, _, _, _, _, _, _, _, _, _] rfl ?_
    refine goes_pubO 9 rfl ?_
    intro g5 G5 P5
    refine goes_norm [_, _, _, _, _, _, _, _, _, _, _, _] rfl ?_
    obtain ⟨mx, hmx⟩ : ∃ mx : MachP, mx = { m with links := m.links ++ [lk] } := ⟨_, rfl⟩
    have RX : MachR g5 A1 A2 A5 A4 mx := by
      subst hmx
      exact ⟨⟨fun _ _ => rfl, (AccR.rd ha1 P1).ext (Ext.trans (Ext.trans G4 G2) G5)⟩, ⟨fun _ _ => rfl, (AccR.rd ha2 P2).ext G5⟩, ⟨fun _ _ => rfl, AccR.rd ha5 P5⟩, ⟨fun _ _ => rfl, (AccR.rd ha4 P4).ext (Ext.trans G2 G5)⟩⟩
    have SX : Sml mx := by
      subst hmx
      exact ⟨by show m.buttons.length < _; omega, by show m.pins.length < _; omega, by show (m.links ++ [lk]).length < _; simp; omega, by show m.weights.length < _; omega⟩
    refine xp_seq ?_
    refine xp_dw [] rfl rfl rfl ?_
    refine dw_load (i := 0) rfl (by decide +kernel) ?_
    refine op_loadPA 0 (vs := [.int .i64 _, .int .i64 _, .int .i64 _, .int .i64 _, .int .i64 _, .slice _ _ _, .slice _ _ _, .slice _ _ _, .slice _ _ _]) rfl rfl rfl rfl rfl ?_
    refine dw_load (i := 1) rfl (by decide +kernel) ?_
    refine op_loadPA 4 (vs := [.int .i64 _, .int .i64 _, .int .i64 _, .int .i64 _, .int .i64 _, .slice _ _ _, .slice _ _ _, .slice _ _ _, .slice _ _ _]) rfl rfl rfl rfl rfl ?_
    refine dw_load (i := 2) rfl (by decide +kernel) ?_
    refine op_loadPA 10 (vs := [.int .i64 _, .int .i64 _, .int .i64 _, .int .i64 _, .int .i64 _, .slice _ _ _, .slice _ _ _, .slice _ _ _, .slice _ _ _]) rfl rfl rfl rfl rfl ?_
    refine dw_load (i := 3) rfl (by decide +kernel) ?_
    refine op_loadPA 4 (vs := [.int .i64 _, .int .i64 _, .int .i64 _, .int .i64 _, .int .i64 _, .slice _ _ _, .slice _ _ _, .slice _ _ _, .slice _ _ _]) rfl rfl rfl rfl rfl ?_
    refine dw_load (i := 5) rfl (by decide +kernel) ?_
    refine op_loadPA 1 (vs := [.slice _ _ _, .slice _ _ _]) rfl rfl rfl rfl rfl ?_
    refine dw_load (i := 6) rfl (by decide +kernel) ?_
    refine op_loadPA 5 (vs := [.slice _ _ _, .slice _ _ _]) rfl rfl rfl rfl rfl ?_
    refine dw_load (i := 7) rfl (by decide +kernel) ?_
    refine op_loadPA 5 (vs := [.slice _ _ _, .slice _ _ _]) rfl rfl rfl rfl rfl ?_
    refine dw_load (i := 8) rfl (by decide +kernel) ?_
    refine op_loadPA 1 (vs := [.slice _ _ _, .slice _ _ _]) rfl rfl rfl rfl rfl ?_
    refine dw_eff (i := 4) rfl (by decide +kernel) ?_
    refine op_buildSliceR (zc := [_, _, _, _, _, _, _, _, _]) [[.int .i64 _, .int .i64 _, .int .i64 _, .int .i64 _, .int .i64 _, .slice _ _ _, .slice _ _ _, .slice _ _ _, .slice _ _ _], [.int .i64 _, .int .i64 _, .int .i64 _, .int .i64 _, .int .i64 _, .slice _ _ _, .slice _ _ _, .slice _ _ _, .slice _ _ _], [.int .i64 _, .int .i64 _, .int .i64 _, .int .i64 _, .int .i64 _, .slice _ _ _, .slice _ _ _, .slice _ _ _, .slice _ _ _], [.int .i64 _, .int .i64 _, .int .i64 _, .int .i64 _, .int .i64 _, .slice _ _ _, .slice _ _ _, .slice _ _ _, .slice _ _ _]] rfl rfl rfl rfl rfl rfl rfl rfl fun b57 hb57 => ?_
    refine ⟨ext_new hb57 _, ?_⟩
    refine dw_norm [_, _, _, _, _, _, _, _, _, _, _, _, _] rfl ?_
    refine dw_pure (i := 10) rfl (by decide +kernel) (pv_assign (v := .slice _ _ _) rfl) ?_
    refine dw_eff (i := 9) rfl (by decide +kernel) ?_
    refine op_buildSlice (zc := [_, _]) (vs := [(0, .agg #[.slice _ _ _, .slice _ _ _]), (1, .agg #[.slice _ _ _, .slice _ _ _]), (2, .agg #[.slice _ _ _, .slice _ _ _]), (3, .agg #[.slice _ _ _, .slice _ _ _])]) (cs := [_, _, _, _, _, _, _, _]) rfl rfl rfl rfl rfl rfl rfl fun b62 hb62 => ?_
    refine ⟨ext_new hb62 _, ?_⟩
    refine dw_norm [_, _, _, _, _, _, _, _, _, _, _, _, _, _] rfl ?_
    refine dw_pure (i := 11) rfl (by decide +kernel) (pv_assign (v := .slice _ _ _) rfl) ?_
    refine dw_end rfl ?_
    refine xp_seq ?_
    refine xp_seq ?_
    refine xp_region rfl ?_
    refine op_pure (pv_assign (v := .int .i64 _) rfl) ?_
    refine xp_block ?_
    refine goes_pub 12 rfl ?_
    intro g6 G6 P6
    refine goes_pub 13 rfl ?_
    intro g7 G7 P7
    obtain ⟨ms, hms⟩ : ∃ x : List MachP, x = [m0, m, mx, m] := ⟨_, rfl⟩
    obtain ⟨hs, hhs⟩ : ∃ x : List HandP, x = [a0, a, a, a0] := ⟨_, rfl⟩
    have hml : ms.length = 4 := by rw [hms]; rfl
    have hhl : hs.length = 4 := by rw [hhs]; rfl
    have hmS : ∀ x ∈ ms, Sml x := by rw [hms]; exact all4 S0 Md.sml SX Md.sml
    have hhS : ∀ x ∈ hs, SmlH x := by rw [hhs]; exact all4 SH0 (HOK.sml M H) (HOK.sml M H) SH0
    have R6 := row_of_block (enc := id) (m := 9) (l := [machC AB0 AQ0 AL0 AW0 cB0 cQ0 cL0 cW0 m0, machC AB AQ AL AW cB cQ cL cW m, machC A1 A2 A5 A4 c1 c2 c5 c4 mx, machC AB AQ AL AW cB cQ cL cW m]) (all4 rfl rfl rfl rfl) (by subst hmx; exact P6)
    have R7 := row_of_block (enc := id) (m := 2) (l := [[.slice HA0 a0.buttons.length cH0, .slice OA0 a0.on.length cO0], [.slice HA a.buttons.length cH, .slice OA a.on.length cO], [.slice HA a.buttons.length cH, .slice OA a.on.length cO], [.slice HA0 a0.buttons.length cH0, .slice OA0 a0.on.length cO0]]) (all4 rfl rfl rfl rfl) P7
    have EL6 : Els g7 TMa ms [machC AB0 AQ0 AL0 AW0 cB0 cQ0 cL0 cW0 m0, machC AB AQ AL AW cB cQ cL cW m, machC A1 A2 A5 A4 c1 c2 c5 c4 mx, machC AB AQ AL AW cB cQ cL cW m] := by
      rw [hms]
      exact els4 ⟨_, _, _, _, _, _, _, _, rfl, RM0.ext (Ext.trans (Ext.trans (Ext.trans (Ext.trans (Ext.trans (Ext.trans (Ext.trans (Ext.trans (Ext.trans (Ext.trans (Ext.trans G0 E1) E2) E3) E4) E1a) G1) G4) G2) G5) G6) G7), u1, u2⟩ ⟨_, _, _, _, _, _, _, _, rfl, RM.ext (Ext.trans (Ext.trans (Ext.trans (Ext.trans (Ext.trans (Ext.trans (Ext.trans (Ext.trans E3 E4) E1a) G1) G4) G2) G5) G6) G7), hcQ, hcL⟩ ⟨_, _, _, _, _, _, _, _, rfl, RX.ext (Ext.trans G6 G7), by subst hmx; exact rm2, by subst hmx; exact rm5⟩ ⟨_, _, _, _, _, _, _, _, rfl, RM.ext (Ext.trans (Ext.trans (Ext.trans (Ext.trans (Ext.trans (Ext.trans (Ext.trans (Ext.trans E3 E4) E1a) G1) G4) G2) G5) G6) G7), hcQ, hcL⟩
    have EL7 : Els g7 TH hs [[.slice HA0 a0.buttons.length cH0, .slice OA0 a0.on.length cO0], [.slice HA a.buttons.length cH, .slice OA a.on.length cO], [.slice HA a.buttons.length cH, .slice OA a.on.length cO], [.slice HA0 a0.buttons.length cH0, .slice OA0 a0.on.length cO0]] := by
      rw [hhs]
      exact els4 (th_of (RH0.ext (Ext.trans (Ext.trans (Ext.trans (Ext.trans (Ext.trans (Ext.trans (Ext.trans (Ext.trans (Ext.trans (Ext.trans (Ext.trans G0 E1) E2) E3) E4) E1a) G1) G4) G2) G5) G6) G7))) (th_of (RH.ext (Ext.trans (Ext.trans (Ext.trans (Ext.trans (Ext.trans (Ext.trans (Ext.trans E4 E1a) G1) G4) G2) G5) G6) G7))) (th_of (RH.ext (Ext.trans (Ext.trans (Ext.trans (Ext.trans (Ext.trans (Ext.trans (Ext.trans E4 E1a) G1) G4) G2) G5) G6) G7))) (th_of (RH0.ext (Ext.trans (Ext.trans (Ext.trans (Ext.trans (Ext.trans (Ext.trans (Ext.trans (Ext.trans (Ext.trans (Ext.trans (Ext.trans G0 E1) E2) E3) E4) E1a) G1) G4) G2) G5) G6) G7)))
    generalize [machC AB0 AQ0 AL0 AW0 cB0 cQ0 cL0 cW0 m0, machC AB AQ AL AW cB cQ cL cW m, machC A1 A2 A5 A4 c1 c2 c5 c4 mx, machC AB AQ AL AW cB cQ cL cW m] = cs6 at R6 EL6
    generalize [[Value.slice HA0 a0.buttons.length cH0, .slice OA0 a0.on.length cO0], [.slice HA a.buttons.length cH, .slice OA a.on.length cO], [.slice HA a.buttons.length cH, .slice OA a.on.length cO], [.slice HA0 a0.buttons.length cH0, .slice OA0 a0.on.length cO0]] = cs7 at R7 EL7
    refine xp_loopB [8, 15, 16, 17, 18, 19, 20, 21, 22, 23, 24, 25, 26, 27, 28, 29, 30, 31, 32, 33, 63, 64, 65, 66, 67, 68, 69, 70, 71, 72, 73, 74, 75, 76, 77, 78, 79, 80, 81, 82, 83, 84, 85, 86, 87, 88, 89, 90, 91, 92, 93, 94, 95, 96, 97, 98, 99, 100, 101, 102, 103, 104, 105, 106, 107, 108, 109, 110, 111, 112, 113, 114, 115, 116, 117, 118, 119, 120, 121, 122, 123, 124, 125, 126, 127, 128, 129, 130, 131, 132, 133, 134, 135, 136, 137, 138, 139, 140, 141, 142, 143, 144, 145, 146, 147, 148, 149, 150, 151, 152, 153, 154, 155, 156, 157, 158, 159, 160, 161, 162, 163, 164, 165, 166, 167, 168, 169, 170, 171, 172, 173, 174, 175, 176, 177, 178, 179, 180, 181, 182, 183, 184, 185, 186, 187, 188, 189, 190, 191, 192, 193, 194, 195, 196, 197, 198, 199, 200, 201, 202, 203, 204, 205, 206, 207, 208, 209, 210, 211, 212, 213, 214, 215, 216, 217, 218, 219] 14 (α := Nat) (fun i => [(15, .int .i64 i)]) (fun i => _) (fun i h_i => i ≤ 4) (fun i => 4 - i) (0) ⟨rfl, trivial⟩ (rfl) (Nat.zero_le _) ?_
    rintro i T2 h_i E_i J_i
    refine goes_norm [_, _, _, _, _, _, _, _, _, _, _, _, _, _] rfl ?_
    refine xp_seq ?_
    refine xp_seq ?_
    refine xp_region rfl ?_
    refine op_pure (pv_move (v := .int .i64 _) rfl) ?_
    refine op_pure (pv_move (v := .slice _ _ _) rfl) ?_
    refine op_pure (pv_len rfl rfl) ?_
    refine op_pure (pv_of (v := .bool _) rfl) ?_
    refine xp_cond rfl (fun hi => ?_) (fun hi => ?_)
    · skip
      have hil : i < 4 := by have := of_decide_eq_true hi; omega
      have him : i < ms.length := by omega
      have hih : i < hs.length := by omega
      have SM := hmS _ (List.getElem_mem him)
      have SH := hhS _ (List.getElem_mem hih)
      have SMw := SM.w
      have SHb := SH.b
      have SHo := SH.o
      obtain ⟨hic, xB, xQ, xL, xW, yB, yQ, yL, yW, e6, RMi, _, _⟩ := (EL6.ext TMa.mono E_i).at him
      obtain ⟨hid, B0, O0, e7, ⟨xH, yH, rfl, r1⟩, ⟨xO, yO, rfl, r2⟩⟩ := (EL7.ext TH.mono E_i).at hih
      obtain ⟨g, off, hA, hc⟩ := (R6.ext (Ext.trans G7 E_i)).at (by omega) hic
      obtain ⟨g', off', hB, hd⟩ := (R7.ext E_i).at (by omega) hid
      have hc : Cells h_i g (off + i * 9) (machC xB xQ xL xW yB yQ yL yW ms[i]) := by rw [← e6]; exact hc
      have hd : Cells h_i g' (off' + i * 2) [.slice xH hs[i].buttons.length yH, .slice xO hs[i].on.length yO] := by rw [← e7]; exact hd
      have RHi : HandR h_i xH xO hs[i] := ⟨r1, r2⟩
      generalize ms[i] = mi at *
      generalize hs[i] = hd' at *
      refine xp_skip ?_
      refine xp_seq ?_
      refine xp_block ?_
      refine xp_seq ?_
      refine xp_dw [] rfl rfl rfl ?_
      refine dw_pure (i := 0) rfl (by decide +kernel) (pv_move (v := .slice _ _ _) rfl) ?_
      refine dw_pure (i := 1) rfl (by decide +kernel) (pv_move (v := .int .i64 _) rfl) ?_
      refine dw_pure (i := 2) rfl (by decide +kernel) (pv_indexE (m := 9) rfl hA rfl rfl rfl (by omega) (by omega)) ?_
      refine dw_load (i := 3) rfl (by decide +kernel) ?_
      refine op_loadA rfl rfl rfl rfl hc ?_
      refine dw_pure (i := 5) rfl (by decide +kernel) (pv_move (v := .slice _ _ _) rfl) ?_
      refine dw_pure (i := 6) rfl (by decide +kernel) (pv_move (v := .int .i64 _) rfl) ?_
      refine dw_pure (i := 7) rfl (by decide +kernel) (pv_indexE (m := 2) rfl hB rfl rfl rfl (by omega) (by omega)) ?_
      refine dw_load (i := 8) rfl (by decide +kernel) ?_
      refine op_loadA rfl rfl rfl rfl hd ?_
      refine dw_eff (i := 4) rfl (by decide +kernel) ?_
      refine op_fn (caps := []) (vs := [.agg _]) rfl rfl rfl (CopyMachine_ok mi SM xB xQ xL xW yB yQ yL yW h_i RMi) ?_
      rintro _ k1 F1 ⟨zB, zQ, zL, zW, wB, wQ, wL, wW, rfl, RMo⟩
      refine ⟨ext_wlm F1 _, ?_⟩
      refine dw_last (i := 9) rfl (by decide +kernel) (by decide +kernel) ?_
      refine op_fn (caps := []) (vs := [.agg _]) rfl rfl rfl (CopyHand_ok hd' xH xO yH yO k1 (RHi.ext F1) SHb SHo) ?_
      rintro _ k2 F2 VHo
      obtain ⟨zH, zO, wH, wO, rfl, RHo⟩ := VHo.open
      have hc := hc.ext (F1.trans F2)
      have hd := hd.ext (F1.trans F2)
      have RMi := RMi.ext (F1.trans F2)
      have RHi := RHi.ext (F1.trans F2)
      have RMo := RMo.ext F2
      refine dw_eff (i := 10) rfl (by decide +kernel) ?_
      refine op_alloc (cs := [_, _, _, _, _, _, _, _, _]) rfl rfl fun b16 hb16 => ?_
      refine ⟨ext_new hb16 _, ?_⟩
      refine dw_norm [_, _, _, _, _, _, _, _, _, _, _, _, _, _, _] rfl ?_
      refine dw_eff (i := 11) rfl (by decide +kernel) ?_
      refine op_alloc (cs := [_, _]) rfl rfl fun b17 hb17 => ?_
      refine ⟨ext_new hb17 _, ?_⟩
      refine dw_norm [_, _, _, _, _, _, _, _, _, _, _, _, _, _, _, _] rfl ?_
      refine dw_last (i := 12) rfl (by decide +kernel) (by decide +kernel) ?_
      refine op_storeP 14 (v := .agg #[.int .i64 _, .int .i64 _, .int .i64 _, .int .i64 _, .int .i64 _, .slice _ _ _, .slice _ _ _, .slice _ _ _, .slice _ _ _]) (vs := [_, _, _, _, _, _, _, _, _]) (c' := [_, _, _, _, _, _, _, _, _]) rfl rfl rfl rfl rfl rfl rfl rfl rfl ?_
      refine dw_norm [_, _, _, _, _, _, _, _, _, _, _, _, _, _, _, _] rfl ?_
      refine dw_last (i := 13) rfl (by decide +kernel) (by decide +kernel) ?_
      refine op_storeP 15 (v := .agg #[.slice _ _ _, .slice _ _ _]) (vs := [_, _]) (c' := [_, _]) rfl rfl rfl rfl rfl rfl rfl rfl rfl ?_
      refine dw_norm [_, _, _, _, _, _, _, _, _, _, _, _, _, _, _, _] rfl ?_
      refine dw_end rfl ?_
      refine xp_seq ?_
      refine xp_region rfl ?_
      refine op_loadPA 14 (vs := [.int .i64 _, .int .i64 _, .int .i64 _, .int .i64 _, .int .i64 _, .slice _ _ _, .slice _ _ _, .slice _ _ _, .slice _ _ _]) rfl rfl rfl rfl rfl ?_
      refine op_loadPA 15 (vs := [.slice _ _ _, .slice _ _ _]) rfl rfl rfl rfl rfl ?_
      refine op_fn (caps := []) (vs := [.agg _, .agg _]) rfl rfl rfl (Turns_ok rfl mi hd' zB zQ zL zW zH zO wB wQ wL wW wH wO k2 (RMo.ext (Ext.refl _)) (RHo.ext (Ext.refl _)) (by omega) (by omega) (by omega)) ?_
      rintro _ k3 F3 ⟨_, rfl, T1, t1, rfl, ST1⟩
      refine op_pure (pv_move (v := .tuple #[.slice _ _ _, .int .i64 _]) rfl) ?_
      refine op_pure (pv_of (v := .slice _ _ _) rfl) ?_
      refine op_pure (pv_of (v := .int .i64 _) rfl) ?_
      refine op_pure (pv_assign (v := .slice _ _ _) rfl) ?_
      refine op_pure (pv_assign (v := .int .i64 _) rfl) ?_
      refine xp_seq ?_
      refine xp_dw [] rfl rfl rfl ?_
      refine dw_pure (i := 0) rfl (by decide +kernel) (pv_move (v := .slice _ _ _) rfl) ?_
      refine dw_pure (i := 1) rfl (by decide +kernel) (pv_move (v := .int .i64 _) rfl) ?_
      refine dw_pure (i := 2) rfl (by decide +kernel) (pv_indexE (m := 9) rfl hA rfl rfl rfl (by omega) (by omega)) ?_
      refine dw_load (i := 3) rfl (by decide +kernel) ?_
      refine op_loadA rfl rfl rfl rfl (hc.ext F3) ?_
      refine dw_pure (i := 4) rfl (by decide +kernel) (pv_move (v := .slice _ _ _) rfl) ?_
      refine dw_pure (i := 5) rfl (by decide +kernel) (pv_move (v := .int .i64 _) rfl) ?_
      refine dw_pure (i := 6) rfl (by decide +kernel) (pv_indexE (m := 2) rfl hB rfl rfl rfl (by omega) (by omega)) ?_
      refine dw_load (i := 7) rfl (by decide +kernel) ?_
      refine op_loadA rfl rfl rfl rfl (hd.ext F3) ?_
      refine dw_last (i := 8) rfl (by decide +kernel) (by decide +kernel) ?_
      refine op_fn (caps := []) (vs := [.agg _, .agg _]) rfl rfl rfl (TurnsG_ok mi SM hd' SH xB xQ xL xW xH xO yB yQ yL yW yH yO k3 (RMi.ext F3) (RHi.ext F3)) ?_
      rintro _ k4 F4 ⟨_, rfl, T2, t2, rfl, ST2⟩
      refine dw_pure (i := 9) rfl (by decide +kernel) (pv_move (v := .tuple #[.slice _ _ _, .int .i64 _]) rfl) ?_
      refine dw_pure (i := 10) rfl (by decide +kernel) (pv_of (v := .slice _ _ _) rfl) ?_
      refine dw_pure (i := 11) rfl (by decide +kernel) (pv_of (v := .int .i64 _) rfl) ?_
      refine dw_pure (i := 12) rfl (by decide +kernel) (pv_assign (v := .slice _ _ _) rfl) ?_
      refine dw_pure (i := 13) rfl (by decide +kernel) (pv_assign (v := .int .i64 _) rfl) ?_
      refine dw_end rfl ?_
      refine xp_seq ?_
      refine xp_region rfl ?_
      refine op_loadPA 14 (vs := [.int .i64 _, .int .i64 _, .int .i64 _, .int .i64 _, .int .i64 _, .slice _ _ _, .slice _ _ _, .slice _ _ _, .slice _ _ _]) rfl rfl rfl rfl rfl ?_
      refine op_loadPA 15 (vs := [.slice _ _ _, .slice _ _ _]) rfl rfl rfl rfl rfl ?_
      refine op_fn (caps := []) (vs := [.agg _, .agg _]) rfl rfl rfl (Lifts_ok rfl mi hd' zB zQ zL zW zH zO wB wQ wL wW wH wO k4 (RMo.ext (Ext.trans F3 F4)) (RHo.ext (Ext.trans F3 F4)) (by omega) (by omega) (by omega)) ?_
      rintro _ k5 F5 ⟨_, rfl, T3, t3, rfl, ST3⟩
      refine op_pure (pv_move (v := .tuple #[.slice _ _ _, .int .i64 _]) rfl) ?_
      refine op_pure (pv_of (v := .slice _ _ _) rfl) ?_
      refine op_pure (pv_of (v := .int .i64 _) rfl) ?_
      refine op_pure (pv_assign (v := .slice _ _ _) rfl) ?_
      refine op_pure (pv_assign (v := .int .i64 _) rfl) ?_
      refine xp_seq ?_
      refine xp_dw [] rfl rfl rfl ?_
      refine dw_pure (i := 0) rfl (by decide +kernel) (pv_move (v := .slice _ _ _) rfl) ?_
      refine dw_pure (i := 1) rfl (by decide +kernel) (pv_move (v := .int .i64 _) rfl) ?_
      refine dw_pure (i := 2) rfl (by decide +kernel) (pv_indexE (m := 9) rfl hA rfl rfl rfl (by omega) (by omega)) ?_
      refine dw_load (i := 3) rfl (by decide +kernel) ?_
      refine op_loadA rfl rfl rfl rfl (hc.ext (Ext.trans (Ext.trans F3 F4) F5)) ?_
      refine dw_pure (i := 4) rfl (by decide +kernel) (pv_move (v := .slice _ _ _) rfl) ?_
      refine dw_pure (i := 5) rfl (by decide +kernel) (pv_move (v := .int .i64 _) rfl) ?_
      refine dw_pure (i := 6) rfl (by decide +kernel) (pv_indexE (m := 2) rfl hB rfl rfl rfl (by omega) (by omega)) ?_
      refine dw_load (i := 7) rfl (by decide +kernel) ?_
      refine op_loadA rfl rfl rfl rfl (hd.ext (Ext.trans (Ext.trans F3 F4) F5)) ?_
      refine dw_last (i := 8) rfl (by decide +kernel) (by decide +kernel) ?_
      refine op_fn (caps := []) (vs := [.agg _, .agg _]) rfl rfl rfl (LiftsG_ok mi SM hd' SH xB xQ xL xW xH xO yB yQ yL yW yH yO k5 (RMi.ext (Ext.trans (Ext.trans F3 F4) F5)) (RHi.ext (Ext.trans (Ext.trans F3 F4) F5))) ?_
      rintro _ k6 F6 ⟨_, rfl, T4, t4, rfl, ST4⟩
      refine dw_pure (i := 9) rfl (by decide +kernel) (pv_move (v := .tuple #[.slice _ _ _, .int .i64 _]) rfl) ?_
      refine dw_pure (i := 10) rfl (by decide +kernel) (pv_of (v := .slice _ _ _) rfl) ?_
      refine dw_pure (i := 11) rfl (by decide +kernel) (pv_of (v := .int .i64 _) rfl) ?_
      refine dw_pure (i := 12) rfl (by decide +kernel) (pv_assign (v := .slice _ _ _) rfl) ?_
      refine dw_pure (i := 13) rfl (by decide +kernel) (pv_assign (v := .int .i64 _) rfl) ?_
      refine dw_end rfl ?_
      refine xp_seq ?_
      refine xp_region rfl ?_
      refine op_loadPA 14 (vs := [.int .i64 _, .int .i64 _, .int .i64 _, .int .i64 _, .int .i64 _, .slice _ _ _, .slice _ _ _, .slice _ _ _, .slice _ _ _]) rfl rfl rfl rfl rfl ?_
      refine op_loadPA 15 (vs := [.slice _ _ _, .slice _ _ _]) rfl rfl rfl rfl rfl ?_
      refine op_fn (caps := []) (vs := [.agg _, .agg _]) rfl rfl rfl (Sounds_ok rfl mi hd' zB zQ zL zW zH zO wB wQ wL wW wH wO k6 (RMo.ext (Ext.trans (Ext.trans (Ext.trans F3 F4) F5) F6)) (RHo.ext (Ext.trans (Ext.trans (Ext.trans F3 F4) F5) F6)) (by omega) (by omega) (by omega)) ?_
      rintro _ k7 F7 ⟨_, rfl, T5, t5, rfl, ST5⟩
      refine op_pure (pv_move (v := .tuple #[.slice _ _ _, .int .i64 _]) rfl) ?_
      refine op_pure (pv_of (v := .slice _ _ _) rfl) ?_
      refine op_pure (pv_of (v := .int .i64 _) rfl) ?_
      refine op_pure (pv_assign (v := .slice _ _ _) rfl) ?_
      refine op_pure (pv_assign (v := .int .i64 _) rfl) ?_
      refine xp_seq ?_
      refine xp_dw [] rfl rfl rfl ?_
      refine dw_pure (i := 0) rfl (by decide +kernel) (pv_move (v := .slice _ _ _) rfl) ?_
      refine dw_pure (i := 1) rfl (by decide +kernel) (pv_move (v := .int .i64 _) rfl) ?_
      refine dw_pure (i := 2) rfl (by decide +kernel) (pv_indexE (m := 9) rfl hA rfl rfl rfl (by omega) (by omega)) ?_
      refine dw_load (i := 3) rfl (by decide +kernel) ?_
      refine op_loadA rfl rfl rfl rfl (hc.ext (Ext.trans (Ext.trans (Ext.trans (Ext.trans F3 F4) F5) F6) F7)) ?_
      refine dw_pure (i := 4) rfl (by decide +kernel) (pv_move (v := .slice _ _ _) rfl) ?_
      refine dw_pure (i := 5) rfl (by decide +kernel) (pv_move (v := .int .i64 _) rfl) ?_
      refine dw_pure (i := 6) rfl (by decide +kernel) (pv_indexE (m := 2) rfl hB rfl rfl rfl (by omega) (by omega)) ?_
      refine dw_load (i := 7) rfl (by decide +kernel) ?_
      refine op_loadA rfl rfl rfl rfl (hd.ext (Ext.trans (Ext.trans (Ext.trans (Ext.trans F3 F4) F5) F6) F7)) ?_
      refine dw_last (i := 8) rfl (by decide +kernel) (by decide +kernel) ?_
      refine op_fn (caps := []) (vs := [.agg _, .agg _]) rfl rfl rfl (SoundsG_ok mi SM hd' SH xB xQ xL xW xH xO yB yQ yL yW yH yO k7 (RMi.ext (Ext.trans (Ext.trans (Ext.trans (Ext.trans F3 F4) F5) F6) F7)) (RHi.ext (Ext.trans (Ext.trans (Ext.trans (Ext.trans F3 F4) F5) F6) F7))) ?_
      rintro _ k8 F8 ⟨_, rfl, T6, t6, rfl, ST6⟩
      refine dw_pure (i := 9) rfl (by decide +kernel) (pv_move (v := .tuple #[.slice _ _ _, .int .i64 _]) rfl) ?_
      refine dw_pure (i := 10) rfl (by decide +kernel) (pv_of (v := .slice _ _ _) rfl) ?_
      refine dw_pure (i := 11) rfl (by decide +kernel) (pv_of (v := .int .i64 _) rfl) ?_
      refine dw_pure (i := 12) rfl (by decide +kernel) (pv_assign (v := .slice _ _ _) rfl) ?_
      refine dw_pure (i := 13) rfl (by decide +kernel) (pv_assign (v := .int .i64 _) rfl) ?_
      refine dw_end rfl ?_
      refine xp_seq ?_
      refine xp_region rfl ?_
      refine op_loadPA 14 (vs := [.int .i64 _, .int .i64 _, .int .i64 _, .int .i64 _, .int .i64 _, .slice _ _ _, .slice _ _ _, .slice _ _ _, .slice _ _ _]) rfl rfl rfl rfl rfl ?_
      refine op_loadPA 15 (vs := [.slice _ _ _, .slice _ _ _]) rfl rfl rfl rfl rfl ?_
      refine op_fn (caps := []) (vs := [.agg _, .agg _]) rfl rfl rfl (Force_ok rfl mi hd' zB zQ zL zW zH zO wB wQ wL wW wH wO k8 (RMo.ext (Ext.trans (Ext.trans (Ext.trans (Ext.trans (Ext.trans F3 F4) F5) F6) F7) F8)) (RHo.ext (Ext.trans (Ext.trans (Ext.trans (Ext.trans (Ext.trans F3 F4) F5) F6) F7) F8)) (by omega) (by omega) (by omega)) ?_
      rintro _ k9 F9 rfl
      refine op_pure (pv_move (v := .tuple #[.int .i64 _, .int .i64 _]) rfl) ?_
      refine op_pure (pv_of (v := .int .i64 _) rfl) ?_
      refine op_pure (pv_of (v := .int .i64 _) rfl) ?_
      refine op_pure (pv_assign (v := .int .i64 _) rfl) ?_
      refine op_pure (pv_assign (v := .int .i64 _) rfl) ?_
      refine xp_seq ?_
      refine xp_dw [] rfl rfl rfl ?_
      refine dw_pure (i := 0) rfl (by decide +kernel) (pv_move (v := .slice _ _ _) rfl) ?_
      refine dw_pure (i := 1) rfl (by decide +kernel) (pv_move (v := .int .i64 _) rfl) ?_
      refine dw_pure (i := 2) rfl (by decide +kernel) (pv_indexE (m := 9) rfl hA rfl rfl rfl (by omega) (by omega)) ?_
      refine dw_load (i := 3) rfl (by decide +kernel) ?_
      refine op_loadA rfl rfl rfl rfl (hc.ext (Ext.trans (Ext.trans (Ext.trans (Ext.trans (Ext.trans (Ext.trans F3 F4) F5) F6) F7) F8) F9)) ?_
      refine dw_pure (i := 4) rfl (by decide +kernel) (pv_move (v := .slice _ _ _) rfl) ?_
      refine dw_pure (i := 5) rfl (by decide +kernel) (pv_move (v := .int .i64 _) rfl) ?_
      refine dw_pure (i := 6) rfl (by decide +kernel) (pv_indexE (m := 2) rfl hB rfl rfl rfl (by omega) (by omega)) ?_
      refine dw_load (i := 7) rfl (by decide +kernel) ?_
      refine op_loadA rfl rfl rfl rfl (hd.ext (Ext.trans (Ext.trans (Ext.trans (Ext.trans (Ext.trans (Ext.trans F3 F4) F5) F6) F7) F8) F9)) ?_
      refine dw_last (i := 8) rfl (by decide +kernel) (by decide +kernel) ?_
      refine op_fn (caps := []) (vs := [.agg _, .agg _]) rfl rfl rfl (ForceG_ok mi SM hd' SH xB xQ xL xW xH xO yB yQ yL yW yH yO k9 (RMi.ext (Ext.trans (Ext.trans (Ext.trans (Ext.trans (Ext.trans (Ext.trans F3 F4) F5) F6) F7) F8) F9)) (RHi.ext (Ext.trans (Ext.trans (Ext.trans (Ext.trans (Ext.trans (Ext.trans F3 F4) F5) F6) F7) F8) F9))) ?_
      rintro _ k10 F10 rfl
      have n1 : (chkM mi != chkM mi) = false := by simp
      have n2 : (checkHandM mi hd' != checkHandM mi hd') = false := by simp
      have n3 : (forceV mi hd' != forceV mi hd') = false := by simp
      have l1 := turns_le mi hd'
      have l2 := lifts_le mi hd'
      have l3 := sounds_le mi hd'
      refine dw_pure (i := 9) rfl (by decide +kernel) (pv_move (v := .tuple #[.int .i64 _, .int .i64 _]) rfl) ?_
      refine dw_pure (i := 10) rfl (by decide +kernel) (pv_of (v := .int .i64 _) rfl) ?_
      refine dw_pure (i := 11) rfl (by decide +kernel) (pv_of (v := .int .i64 _) rfl) ?_
      refine dw_pure (i := 12) rfl (by decide +kernel) (pv_assign (v := .int .i64 _) rfl) ?_
      refine dw_pure (i := 13) rfl (by decide +kernel) (pv_assign (v := .int .i64 _) rfl) ?_
      refine dw_end rfl ?_
      refine xp_seq ?_
      refine xp_dw [] rfl rfl rfl ?_
      refine dw_load (i := 0) rfl (by decide +kernel) ?_
      refine op_loadPA 14 (vs := [.int .i64 _, .int .i64 _, .int .i64 _, .int .i64 _, .int .i64 _, .slice _ _ _, .slice _ _ _, .slice _ _ _, .slice _ _ _]) rfl rfl rfl rfl rfl ?_
      refine dw_pure (i := 2) rfl (by decide +kernel) (pv_move (v := .slice _ _ _) rfl) ?_
      refine dw_pure (i := 3) rfl (by decide +kernel) (pv_move (v := .int .i64 _) rfl) ?_
      refine dw_pure (i := 4) rfl (by decide +kernel) (pv_indexE (m := 9) rfl hA rfl rfl rfl (by omega) (by omega)) ?_
      refine dw_load (i := 5) rfl (by decide +kernel) ?_
      refine op_loadA rfl rfl rfl rfl (hc.ext (Ext.trans (Ext.trans (Ext.trans (Ext.trans (Ext.trans (Ext.trans (Ext.trans F3 F4) F5) F6) F7) F8) F9) F10)) ?_
      refine dw_eff (i := 1) rfl (by decide +kernel) ?_
      refine op_fn (caps := []) (vs := [.agg _]) rfl rfl rfl (Check_ok mi zB zQ zL zW wB wQ wL wW k10 (RMo.ext (Ext.trans (Ext.trans (Ext.trans (Ext.trans (Ext.trans (Ext.trans (Ext.trans F3 F4) F5) F6) F7) F8) F9) F10)) (by omega)) ?_
      rintro _ k11 F11 rfl
      refine ⟨ext_wlm F11 _, ?_⟩
      refine dw_last (i := 6) rfl (by decide +kernel) (by decide +kernel) ?_
      refine op_fn (caps := []) (vs := [.agg _]) rfl rfl rfl (CheckS_ok mi SM xB xQ xL xW yB yQ yL yW k11 (RMi.ext (Ext.trans (Ext.trans (Ext.trans (Ext.trans (Ext.trans (Ext.trans (Ext.trans (Ext.trans F3 F4) F5) F6) F7) F8) F9) F10) F11))) ?_
      rintro _ k12 F12 rfl
      refine dw_pure (i := 7) rfl (by decide +kernel) (pv_of (v := .bool _) rfl) ?_
      refine dw_pure (i := 8) rfl (by decide +kernel) (pv_move (v := .bool _) rfl) ?_
      refine dw_pureG (i := 9) rfl (by decide +kernel) rfl n1 (pv_move (v := .int .i64 _) rfl) ?_
      refine dw_pureG (i := 10) rfl (by decide +kernel) rfl n1 (pv_move (v := .int .i64 _) rfl) ?_
      refine dw_pureG (i := 11) rfl (by decide +kernel) rfl n1 (pv_of (v := .bool _) rfl) ?_
      refine dw_pure (i := 12) rfl (by decide +kernel) (pv_pickF rfl n1 (v := .bool _) rfl) ?_
      refine dw_pure (i := 13) rfl (by decide +kernel) (pv_move (v := .bool _) rfl) ?_
      refine dw_pureG (i := 14) rfl (by decide +kernel) rfl n2 (pv_move (v := .int .i64 _) rfl) ?_
      refine dw_pureG (i := 15) rfl (by decide +kernel) rfl n2 (pv_move (v := .int .i64 _) rfl) ?_
      refine dw_pureG (i := 16) rfl (by decide +kernel) rfl n2 (pv_of (v := .bool _) rfl) ?_
      refine dw_pure (i := 17) rfl (by decide +kernel) (pv_pickF rfl n2 (v := .bool _) rfl) ?_
      refine dw_pure (i := 18) rfl (by decide +kernel) (pv_move (v := .bool _) rfl) ?_
      refine dw_pureG (i := 19) rfl (by decide +kernel) rfl n2 (pv_move (v := .int .i64 _) rfl) ?_
      refine dw_pureG (i := 20) rfl (by decide +kernel) rfl n2 (pv_move (v := .int .i64 _) rfl) ?_
      refine dw_pureG (i := 21) rfl (by decide +kernel) rfl n2 (pv_of (v := .bool _) rfl) ?_
      refine dw_pure (i := 22) rfl (by decide +kernel) (pv_pickF rfl n2 (v := .bool _) rfl) ?_
      refine dw_pure (i := 23) rfl (by decide +kernel) (pv_move (v := .bool _) rfl) ?_
      refine dw_pureG (i := 24) rfl (by decide +kernel) rfl n2 (pv_move (v := .int .i64 _) rfl) ?_
      refine dw_pureG (i := 25) rfl (by decide +kernel) rfl n2 (pv_move (v := .int .i64 _) rfl) ?_
      refine dw_pureG (i := 26) rfl (by decide +kernel) rfl n2 (pv_of (v := .bool _) rfl) ?_
      refine dw_pure (i := 27) rfl (by decide +kernel) (pv_pickF rfl n2 (v := .bool _) rfl) ?_
      refine dw_pure (i := 28) rfl (by decide +kernel) (pv_move (v := .bool _) rfl) ?_
      refine dw_pureG (i := 29) rfl (by decide +kernel) rfl n2 (pv_move (v := .int .i64 _) rfl) ?_
      refine dw_pureG (i := 30) rfl (by decide +kernel) rfl n2 (pv_move (v := .int .i64 _) rfl) ?_
      refine dw_pureG (i := 31) rfl (by decide +kernel) rfl n2 (pv_of (v := .bool _) rfl) ?_
      refine dw_pure (i := 32) rfl (by decide +kernel) (pv_pickF rfl n2 (v := .bool _) rfl) ?_
      refine dw_pure (i := 33) rfl (by decide +kernel) (pv_move (v := .bool _) rfl) ?_
      refine dw_pureG (i := 34) rfl (by decide +kernel) rfl n3 (pv_move (v := .slice _ _ _) rfl) ?_
      refine dw_pureG (i := 35) rfl (by decide +kernel) rfl n3 (pv_move (v := .slice _ _ _) rfl) ?_
      refine dw_lastG (i := 36) rfl (by decide +kernel) (by decide +kernel) rfl n3 ?_
      refine op_fn (caps := []) (vs := [.slice _ _ _, .slice _ _ _]) rfl rfl rfl (sameIntsS_ok _ _ _ _ _ k12 (ST1.ext (Ext.trans (Ext.trans (Ext.trans (Ext.trans (Ext.trans (Ext.trans (Ext.trans (Ext.trans F4 F5) F6) F7) F8) F9) F10) F11) F12)) (ST2.ext (Ext.trans (Ext.trans (Ext.trans (Ext.trans (Ext.trans (Ext.trans (Ext.trans F5 F6) F7) F8) F9) F10) F11) F12)) (by omega)) ?_
      rintro _ k13 F13 rfl
      refine dw_pureG (i := 37) rfl (by decide +kernel) rfl n3 (pv_of (v := .bool _) rfl) ?_
      refine dw_pure (i := 38) rfl (by decide +kernel) (pv_pickF rfl n3 (v := .bool _) rfl) ?_
      refine dw_pure (i := 39) rfl (by decide +kernel) (pv_move (v := .bool _) rfl) ?_
      refine dw_pureG (i := 40) rfl (by decide +kernel) rfl rfl (pv_move (v := .slice _ _ _) rfl) ?_
      refine dw_pureG (i := 41) rfl (by decide +kernel) rfl rfl (pv_move (v := .slice _ _ _) rfl) ?_
      refine dw_lastG (i := 42) rfl (by decide +kernel) (by decide +kernel) rfl rfl ?_
      refine op_fn (caps := []) (vs := [.slice _ _ _, .slice _ _ _]) rfl rfl rfl (sameIntsS_ok _ _ _ _ _ k13 (ST3.ext (Ext.trans (Ext.trans (Ext.trans (Ext.trans (Ext.trans (Ext.trans (Ext.trans F6 F7) F8) F9) F10) F11) F12) F13)) (ST4.ext (Ext.trans (Ext.trans (Ext.trans (Ext.trans (Ext.trans (Ext.trans F7 F8) F9) F10) F11) F12) F13)) (by omega)) ?_
      rintro _ k14 F14 rfl
      refine dw_pureG (i := 43) rfl (by decide +kernel) rfl rfl (pv_of (v := .bool _) rfl) ?_
      refine dw_pure (i := 44) rfl (by decide +kernel) (pv_pickF rfl rfl (v := .bool _) rfl) ?_
      refine dw_pure (i := 45) rfl (by decide +kernel) (pv_move (v := .bool _) rfl) ?_
      refine dw_pureG (i := 46) rfl (by decide +kernel) rfl rfl (pv_move (v := .slice _ _ _) rfl) ?_
      refine dw_pureG (i := 47) rfl (by decide +kernel) rfl rfl (pv_move (v := .slice _ _ _) rfl) ?_
      refine dw_lastG (i := 48) rfl (by decide +kernel) (by decide +kernel) rfl rfl ?_
      refine op_fn (caps := []) (vs := [.slice _ _ _, .slice _ _ _]) rfl rfl rfl (sameIntsS_ok _ _ _ _ _ k14 (ST5.ext (Ext.trans (Ext.trans (Ext.trans (Ext.trans (Ext.trans (Ext.trans F8 F9) F10) F11) F12) F13) F14)) (ST6.ext (Ext.trans (Ext.trans (Ext.trans (Ext.trans (Ext.trans F9 F10) F11) F12) F13) F14)) (by omega)) ?_
      rintro _ k15 F15 rfl
      refine dw_pureG (i := 49) rfl (by decide +kernel) rfl rfl (pv_of (v := .bool _) rfl) ?_
      refine dw_pure (i := 50) rfl (by decide +kernel) (pv_pickF rfl rfl (v := .bool _) rfl) ?_
      refine dw_pure (i := 51) rfl (by decide +kernel) (pv_move (v := .bool _) rfl) ?_
      refine dw_loadG (i := 52) rfl (by decide +kernel) rfl rfl ?_
      refine op_loadPA 14 (vs := [.int .i64 _, .int .i64 _, .int .i64 _, .int .i64 _, .int .i64 _, .slice _ _ _, .slice _ _ _, .slice _ _ _, .slice _ _ _]) rfl rfl rfl rfl rfl ?_
      refine dw_pureG (i := 53) rfl (by decide +kernel) rfl rfl (pv_move (v := .slice _ _ _) rfl) ?_
      refine dw_pureG (i := 54) rfl (by decide +kernel) rfl rfl (pv_move (v := .int .i64 _) rfl) ?_
      refine dw_pureG (i := 55) rfl (by decide +kernel) rfl rfl (pv_indexE (m := 9) rfl hA rfl rfl rfl (by omega) (by omega)) ?_
      refine dw_loadG (i := 56) rfl (by decide +kernel) rfl rfl ?_
      refine op_loadA rfl rfl rfl rfl (hc.ext (Ext.trans (Ext.trans (Ext.trans (Ext.trans (Ext.trans (Ext.trans (Ext.trans (Ext.trans (Ext.trans (Ext.trans (Ext.trans (Ext.trans F3 F4) F5) F6) F7) F8) F9) F10) F11) F12) F13) F14) F15)) ?_
      refine dw_lastG (i := 57) rfl (by decide +kernel) (by decide +kernel) rfl rfl ?_
      refine op_fn (caps := []) (vs := [.agg _, .agg _]) rfl rfl rfl (SameMachines_ok mi SM zB zQ zL zW wB wQ wL wW xB xQ xL xW yB yQ yL yW k15 (RMo.ext (Ext.trans (Ext.trans (Ext.trans (Ext.trans (Ext.trans (Ext.trans (Ext.trans (Ext.trans (Ext.trans (Ext.trans (Ext.trans (Ext.trans F3 F4) F5) F6) F7) F8) F9) F10) F11) F12) F13) F14) F15)) (RMi.ext (Ext.trans (Ext.trans (Ext.trans (Ext.trans (Ext.trans (Ext.trans (Ext.trans (Ext.trans (Ext.trans (Ext.trans (Ext.trans (Ext.trans F3 F4) F5) F6) F7) F8) F9) F10) F11) F12) F13) F14) F15))) ?_
      rintro _ k16 F16 rfl
      refine dw_pureG (i := 58) rfl (by decide +kernel) rfl rfl (pv_of (v := .bool _) rfl) ?_
      refine dw_pure (i := 59) rfl (by decide +kernel) (pv_pickF rfl rfl (v := .bool _) rfl) ?_
      refine dw_pure (i := 60) rfl (by decide +kernel) (pv_move (v := .bool _) rfl) ?_
      refine dw_loadG (i := 61) rfl (by decide +kernel) rfl rfl ?_
      refine op_loadPA 15 (vs := [.slice _ _ _, .slice _ _ _]) rfl rfl rfl rfl rfl ?_
      refine dw_pureG (i := 62) rfl (by decide +kernel) rfl rfl (pv_move (v := .slice _ _ _) rfl) ?_
      refine dw_pureG (i := 63) rfl (by decide +kernel) rfl rfl (pv_move (v := .int .i64 _) rfl) ?_
      refine dw_pureG (i := 64) rfl (by decide +kernel) rfl rfl (pv_indexE (m := 2) rfl hB rfl rfl rfl (by omega) (by omega)) ?_
      refine dw_loadG (i := 65) rfl (by decide +kernel) rfl rfl ?_
      refine op_loadA rfl rfl rfl rfl (hd.ext (Ext.trans (Ext.trans (Ext.trans (Ext.trans (Ext.trans (Ext.trans (Ext.trans (Ext.trans (Ext.trans (Ext.trans (Ext.trans (Ext.trans (Ext.trans F3 F4) F5) F6) F7) F8) F9) F10) F11) F12) F13) F14) F15) F16)) ?_
      refine dw_lastG (i := 66) rfl (by decide +kernel) (by decide +kernel) rfl rfl ?_
      refine op_fn (caps := []) (vs := [.agg _, .agg _]) rfl rfl rfl (sameHandsS_ok hd' zH zO xH xO wH wO yH yO k16 (RHo.ext (Ext.trans (Ext.trans (Ext.trans (Ext.trans (Ext.trans (Ext.trans (Ext.trans (Ext.trans (Ext.trans (Ext.trans (Ext.trans (Ext.trans (Ext.trans F3 F4) F5) F6) F7) F8) F9) F10) F11) F12) F13) F14) F15) F16)) (RHi.ext (Ext.trans (Ext.trans (Ext.trans (Ext.trans (Ext.trans (Ext.trans (Ext.trans (Ext.trans (Ext.trans (Ext.trans (Ext.trans (Ext.trans (Ext.trans F3 F4) F5) F6) F7) F8) F9) F10) F11) F12) F13) F14) F15) F16)) (by omega) (by omega)) ?_
      rintro _ k17 F17 rfl
      refine dw_pureG (i := 67) rfl (by decide +kernel) rfl rfl (pv_of (v := .bool _) rfl) ?_
      refine dw_pure (i := 68) rfl (by decide +kernel) (pv_pickF rfl rfl (v := .bool _) rfl) ?_
      refine dw_end rfl ?_
      refine xp_condF rfl (rfl) ?_
      refine xp_skip ?_
      refine xp_region rfl ?_
      refine op_pure (pv_move (v := .int .i64 _) rfl) ?_
      refine op_pure (pv_arith rfl (by omega)) ?_
      refine op_pure (pv_assign (v := .int .i64 _) rfl) ?_
      refine ⟨i + 1, ⟨rfl, trivial⟩, rfl, rfl, (Ext.trans (Ext.trans (Ext.trans (Ext.trans (Ext.trans (Ext.trans (Ext.trans (Ext.trans (Ext.trans (Ext.trans (Ext.trans (Ext.trans (Ext.trans (Ext.trans (Ext.trans (Ext.trans (Ext.trans E_i F1) F2) F3) F4) F5) F6) F7) F8) F9) F10) F11) F12) F13) F14) F15) F16) F17), fun h3 E3 => by omega, by first | omega | (dsimp only; omega), ?_⟩
      repeat (first | exact off_base _ _ _ | refine off_upd (by decide) ?_ | refine off_updL rfl ?_ | refine off_mix rfl ?_)
    · skip
      refine xp_exit ?_
      refine xp_seq ?_
      refine xp_region rfl ?_
      refine op_fn (caps := []) (vs := []) rfl rfl rfl (rod_sounding rfl h_i) ?_
      rintro _ h26 E26 rfl
      refine op_pure (pv_assign (v := .bool _) rfl) ?_
      refine xp_ret ?_
      exact ⟨rfl, fun V => (Ext.trans (Ext.trans (Ext.trans (Ext.trans (Ext.trans (Ext.trans (Ext.trans (Ext.trans (Ext.trans (Ext.trans (Ext.trans (Ext.trans (Ext.trans (Ext.trans G0 E1) E2) E3) E4) E1a) G1) G4) G2) G5) G6) G7) E_i) E26) (ext_wl V)), rfl⟩
end
end Go.Proofs.Ythphpbdmbmiaiaa
