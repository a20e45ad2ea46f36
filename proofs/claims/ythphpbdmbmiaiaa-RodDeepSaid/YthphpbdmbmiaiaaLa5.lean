/- An own logic over the model, its walks and its plain laws, joined of parts R19 GQ Rm Rn Ro R20 R21 U Uc Rp GS R23 R25 R26. Conditions: as each theorem states. -/
import Derived.Test.YthphpbdmbmiaiaaLa4
import Derived.Test.YthphpbdmbmiaiaaLa1
import Derived.Test.YthphpbdmbmiaiaaLa2
import Derived.Conc.LeavingOf
set_option linter.all false
/- Walks of the laws of rod: the chapter's examples hold. Conditions: as each theorem states. -/
namespace Go.Proofs.Ythphpbdmbmiaiaa
open Go Go.HL Go.Proofs Go.Wx Go.Rd
section
variable [Lvl]
set_option maxRecDepth 100000
theorem m0_hand : checkHandM mach0 ⟨[0, 1], []⟩ = 0 := by decide +kernel
theorem m0_lifts : liftsL mach0 ⟨[0, 1], []⟩ = [4, 3, 1, 0] := by decide +kernel
theorem m0_force : forceV mach0 ⟨[0, 1], []⟩ = 9 := by decide +kernel
theorem m0_hand2 : checkHandM mach0 ⟨[], [0]⟩ = 0 := by decide +kernel
theorem m0_chart : chartL mach0 [0] = [[0, 1, 2], [1]] := by decide +kernel
theorem m0_suspE : suspE mach0 (heard0 [0]) = 0 := by decide +kernel
theorem m0_suspL : suspL mach0 (heard0 [0]) = [1, 9] := by decide +kernel
theorem m0_testE : testE mach0 (heard0 [0]) = 0 := by decide +kernel
theorem m0_testN : testN mach0 (heard0 [0]) = 1 := by decide +kernel
theorem m0_testB : (testA mach0 (heard0 [0])).buttons = [1] := by decide +kernel
theorem m0_testO : (testA mach0 (heard0 [0])).on = [] := by decide +kernel
theorem m0_test : testA mach0 (heard0 [0]) = ⟨[1], []⟩ := by
  have h1 := m0_testB
  have h2 := m0_testO
  cases h : testA mach0 (heard0 [0]) with
  | mk b o => rw [h] at h1 h2; simp only at h1 h2; rw [h1, h2]
theorem hlen0 (l : List Int) (h : l.length < 2 ^ 40) : HLen (heard0 l) := ⟨by show 1 < 2 ^ 40; decide, fun x hx => by simp [heard0] at hx; subst hx; exact ⟨by show 1 < 2 ^ 40; decide, by show 0 < 2 ^ 40; decide, h⟩⟩
theorem rod_sounding (hph : Lvl.ph = true) (h : AH) : FnT Try.prog 28 #[] h (fun v _ => v = .bool true) := by
  have w0 : mach0.weights.length < 2 ^ 40 := by decide
  refine call_body Try.func28 rfl Try.ntmps28 rfl ?_
  refine xp_seq ?_
  refine xp_region rfl ?_
  refine op_pure (pv_assign (v := .bool _) rfl) ?_
  refine xp_seq ?_
  refine xp_region rfl ?_
  refine op_fn (caps := []) (vs := []) rfl rfl rfl (machine_ok h) ?_
  rintro _ h1 E1 ⟨AB1, AQ1, AL1, AW1, cB1, cQ1, cL1, cW1, rfl, M1⟩
  refine op_buildSlice (zc := [_]) (vs := [(0, .int .i64 _), (1, .int .i64 _)]) (cs := [_, _]) rfl rfl rfl rfl rfl rfl rfl fun b14 hb14 => ?_
  refine wp_norm [_] rfl ?_
  refine wp_pub 0 rfl rfl ?_
  intro h2 E2 p2
  refine wp_norm [_] rfl ?_
  refine op_fn (caps := []) (vs := [.slice _ _ _]) rfl rfl rfl (pressed_ok [0, 1] _ _ h2) ?_
  rintro _ h3 E3 rfl
  have R2 : Row h2 1 intC (some ⟨b14, 0, none⟩) [0, 1] := row_of_block (enc := intC) (m := 1) (l := [0, 1]) (fun _ _ => rfl) p2
  have H1 := Lifts_ok hph mach0 ⟨[0, 1], []⟩ AB1 AQ1 AL1 AW1 (some ⟨b14, 0, none⟩) none cB1 cQ1 cL1 cW1 2 0 h3 (M1.ext (Ext.trans E2 E3)) ⟨R2.ext E3, row_nil _ _⟩ w0 (by decide) (by decide)
  rw [m0_hand, m0_lifts] at H1
  refine op_fn (caps := []) (vs := [.agg #[.int .i64 _, .int .i64 _, .int .i64 _, .int .i64 _, .int .i64 _, .slice _ _ _, .slice _ _ _, .slice _ _ _, .slice _ _ _], .agg #[.slice _ _ _, .slice _ _ _]]) rfl rfl rfl (H1) ?_
  rintro _ h4 E4 ⟨_, rfl, A4, c4, rfl, S4⟩
  refine op_pure (pv_move (v := .tuple #[.slice _ _ _, .int .i64 _]) rfl) ?_
  refine op_pure (pv_of (v := .slice _ _ _) rfl) ?_
  refine op_pure (pv_of (v := .int .i64 _) rfl) ?_
  refine op_pure (pv_assign (v := .slice _ _ _) rfl) ?_
  refine op_pure (pv_assign (v := .int .i64 _) rfl) ?_
  refine xp_seq ?_
  refine xp_region rfl ?_
  refine op_fn (caps := []) (vs := []) rfl rfl rfl (machine_ok h4) ?_
  rintro _ h5 E5 ⟨AB2, AQ2, AL2, AW2, cB2, cQ2, cL2, cW2, rfl, M2⟩
  refine op_buildSlice (zc := [_]) (vs := [(0, .int .i64 _), (1, .int .i64 _)]) (cs := [_, _]) rfl rfl rfl rfl rfl rfl rfl fun b21 hb21 => ?_
  refine wp_norm [_, _] rfl ?_
  refine wp_pub 1 rfl rfl ?_
  intro h6 E6 p6
  refine wp_norm [_, _] rfl ?_
  refine op_fn (caps := []) (vs := [.slice _ _ _]) rfl rfl rfl (pressed_ok [0, 1] _ _ h6) ?_
  rintro _ h7 E7 rfl
  have R6 : Row h6 1 intC (some ⟨b21, 0, none⟩) [0, 1] := row_of_block (enc := intC) (m := 1) (l := [0, 1]) (fun _ _ => rfl) p6
  have H2 := Force_ok hph mach0 ⟨[0, 1], []⟩ AB2 AQ2 AL2 AW2 (some ⟨b21, 0, none⟩) none cB2 cQ2 cL2 cW2 2 0 h7 (M2.ext (Ext.trans E6 E7)) ⟨R6.ext E7, row_nil _ _⟩ w0 (by decide) (by decide)
  rw [m0_hand, m0_force] at H2
  refine op_fn (caps := []) (vs := [.agg #[.int .i64 _, .int .i64 _, .int .i64 _, .int .i64 _, .int .i64 _, .slice _ _ _, .slice _ _ _, .slice _ _ _, .slice _ _ _], .agg #[.slice _ _ _, .slice _ _ _]]) rfl rfl rfl (H2) ?_
  rintro _ h8 E8 rfl
  refine op_pure (pv_move (v := .tuple #[.int .i64 _, .int .i64 _]) rfl) ?_
  refine op_pure (pv_of (v := .int .i64 _) rfl) ?_
  refine op_pure (pv_of (v := .int .i64 _) rfl) ?_
  refine op_pure (pv_assign (v := .int .i64 _) rfl) ?_
  refine op_pure (pv_assign (v := .int .i64 _) rfl) ?_
  refine xp_seq ?_
  refine xp_region rfl ?_
  refine op_fn (caps := []) (vs := []) rfl rfl rfl (machine_ok h8) ?_
  rintro _ h9 E9 ⟨AB3, AQ3, AL3, AW3, cB3, cQ3, cL3, cW3, rfl, M3⟩
  refine op_buildSlice (zc := [_]) (vs := [(0, .int .i64 _)]) (cs := [_]) rfl rfl rfl rfl rfl rfl rfl fun b28 hb28 => ?_
  refine wp_norm [_, _, _] rfl ?_
  refine wp_pub 2 rfl rfl ?_
  intro h10 E10 p10
  refine wp_norm [_, _, _] rfl ?_
  have R10 : Row h10 1 intC (some ⟨b28, 0, none⟩) [0] := row_of_block (enc := intC) (m := 1) (l := [0]) (fun _ _ => rfl) p10
  have H3 := Chart_ok hph mach0 [0] AB3 AQ3 AL3 AW3 (some ⟨b28, 0, none⟩) cB3 cQ3 cL3 cW3 1 h10 (M3.ext E10) R10 w0 (by decide)
  rw [m0_hand2, m0_chart] at H3
  refine op_fn (caps := []) (vs := [.agg #[.int .i64 _, .int .i64 _, .int .i64 _, .int .i64 _, .int .i64 _, .slice _ _ _, .slice _ _ _, .slice _ _ _, .slice _ _ _], .slice _ _ _]) rfl rfl rfl (H3) ?_
  rintro _ h11 E11 ⟨_, rfl, S11⟩
  obtain ⟨cs11, A11, c11, rfl, R11, L11⟩ := SlX.els S11
  refine op_pure (pv_move (v := .tuple #[.slice _ _ _, .int .i64 _]) rfl) ?_
  refine op_pure (pv_of (v := .slice _ _ _) rfl) ?_
  refine op_pure (pv_of (v := .int .i64 _) rfl) ?_
  refine op_pure (pv_assign (v := .slice _ _ _) rfl) ?_
  refine op_pure (pv_assign (v := .int .i64 _) rfl) ?_
  refine xp_seq ?_
  refine xp_region rfl ?_
  refine op_fn (caps := []) (vs := []) rfl rfl rfl (machine_ok h11) ?_
  rintro _ h12 E12 ⟨AB4, AQ4, AL4, AW4, cB4, cQ4, cL4, cW4, rfl, M4⟩
  refine op_buildSlice (zc := [_]) (vs := [(0, .int .i64 _)]) (cs := [_]) rfl rfl rfl rfl rfl rfl rfl fun b34 hb34 => ?_
  refine wp_norm [_, _, _, _] rfl ?_
  refine wp_pub 3 rfl rfl ?_
  intro h13 E13 p13
  refine wp_norm [_, _, _, _] rfl ?_
  have R13 : Row h13 1 intC (some ⟨b34, 0, none⟩) [0] := row_of_block (enc := intC) (m := 1) (l := [0]) (fun _ _ => rfl) p13
  refine op_fn (caps := []) (vs := [.slice _ _ _]) rfl rfl rfl (sounded_ok [0] _ _ h13 R13) ?_
  rintro _ h14 E14 ⟨UA4, cU4, cs4, rfl, RU4, EU4⟩
  have H4 := Suspects_ok hph mach0 (heard0 [0]) (hlen0 _ (by decide)) AB4 AQ4 AL4 AW4 UA4 cB4 cQ4 cL4 cW4 cU4 cs4 h14 (M4.ext (Ext.trans E13 E14)) w0 RU4 EU4
  rw [m0_suspE, m0_suspL] at H4
  refine op_fn (caps := []) (vs := [.agg #[.int .i64 _, .int .i64 _, .int .i64 _, .int .i64 _, .int .i64 _, .slice _ _ _, .slice _ _ _, .slice _ _ _, .slice _ _ _], .slice _ _ _]) rfl rfl rfl (H4) ?_
  rintro _ h15 E15 ⟨_, rfl, A15, c15, rfl, S15⟩
  refine op_pure (pv_move (v := .tuple #[.slice _ _ _, .int .i64 _]) rfl) ?_
  refine op_pure (pv_of (v := .slice _ _ _) rfl) ?_
  refine op_pure (pv_of (v := .int .i64 _) rfl) ?_
  refine op_pure (pv_assign (v := .slice _ _ _) rfl) ?_
  refine op_pure (pv_assign (v := .int .i64 _) rfl) ?_
  refine xp_seq ?_
  refine xp_region rfl ?_
  refine op_fn (caps := []) (vs := []) rfl rfl rfl (machine_ok h15) ?_
  rintro _ h16 E16 ⟨AB5, AQ5, AL5, AW5, cB5, cQ5, cL5, cW5, rfl, M5⟩
  refine op_buildSlice (zc := [_]) (vs := [(0, .int .i64 _)]) (cs := [_]) rfl rfl rfl rfl rfl rfl rfl fun b41 hb41 => ?_
  refine wp_norm [_, _, _, _, _] rfl ?_
  refine wp_pub 4 rfl rfl ?_
  intro h17 E17 p17
  refine wp_norm [_, _, _, _, _] rfl ?_
  have R17 : Row h17 1 intC (some ⟨b41, 0, none⟩) [0] := row_of_block (enc := intC) (m := 1) (l := [0]) (fun _ _ => rfl) p17
  refine op_fn (caps := []) (vs := [.slice _ _ _]) rfl rfl rfl (sounded_ok [0] _ _ h17 R17) ?_
  rintro _ h18 E18 ⟨UA5, cU5, cs5, rfl, RU5, EU5⟩
  have H5 := Test_ok hph mach0 (heard0 [0]) (hlen0 _ (by decide)) AB5 AQ5 AL5 AW5 UA5 cB5 cQ5 cL5 cW5 cU5 cs5 h18 (M5.ext (Ext.trans E17 E18)) w0 RU5 EU5
  rw [m0_testE, m0_testN, m0_test] at H5
  refine op_fn (caps := []) (vs := [.agg #[.int .i64 _, .int .i64 _, .int .i64 _, .int .i64 _, .int .i64 _, .slice _ _ _, .slice _ _ _, .slice _ _ _, .slice _ _ _], .slice _ _ _]) rfl rfl rfl (H5) ?_
  rintro _ h19 E19 ⟨_, rfl, V19⟩
  obtain ⟨HA, OA, cH, cO, rfl, RH⟩ := HandV.open V19
  refine op_pure (pv_move (v := .tuple #[.agg #[.slice _ _ _, .slice _ _ _], .int .i64 _, .int .i64 _]) rfl) ?_
  refine op_pure (pv_of (v := .agg #[.slice _ _ _, .slice _ _ _]) rfl) ?_
  refine op_pure (pv_of (v := .int .i64 _) rfl) ?_
  refine op_pure (pv_of (v := .int .i64 _) rfl) ?_
  refine op_alloc (cs := [_, _]) rfl rfl fun b9 hb9 => ?_
  refine wp_norm [_, _, _, _, _, _] rfl ?_
  refine op_storeP 5 (v := .agg #[.slice _ _ _, .slice _ _ _]) (vs := [_, _]) (c' := [_, _]) rfl rfl rfl rfl rfl rfl rfl rfl rfl ?_
  refine wp_norm [_, _, _, _, _, _] rfl ?_
  refine op_pure (pv_assign (v := .int .i64 _) rfl) ?_
  refine op_pure (pv_assign (v := .int .i64 _) rfl) ?_
  refine xp_seq ?_
  refine xp_dw [] rfl rfl rfl ?_
  refine dw_pure (i := 0) rfl (by decide +kernel) (pv_move (v := .int .i64 _) rfl) ?_
  refine dw_pure (i := 1) rfl (by decide +kernel) (pv_of (v := .bool _) rfl) ?_
  refine dw_pure (i := 2) rfl (by decide +kernel) (pv_move (v := .bool _) rfl) ?_
  refine dw_pureG (i := 3) rfl (by decide +kernel) rfl rfl (pv_move (v := .int .i64 _) rfl) ?_
  refine dw_pureG (i := 4) rfl (by decide +kernel) rfl rfl (pv_of (v := .bool _) rfl) ?_
  refine dw_pure (i := 5) rfl (by decide +kernel) (pv_pickT rfl rfl (v := .bool _) rfl) ?_
  refine dw_pure (i := 6) rfl (by decide +kernel) (pv_move (v := .bool _) rfl) ?_
  refine dw_pureG (i := 7) rfl (by decide +kernel) rfl rfl (pv_move (v := .int .i64 _) rfl) ?_
  refine dw_pureG (i := 8) rfl (by decide +kernel) rfl rfl (pv_of (v := .bool _) rfl) ?_
  refine dw_pure (i := 9) rfl (by decide +kernel) (pv_pickT rfl rfl (v := .bool _) rfl) ?_
  refine dw_pure (i := 10) rfl (by decide +kernel) (pv_move (v := .bool _) rfl) ?_
  refine dw_pureG (i := 11) rfl (by decide +kernel) rfl rfl (pv_move (v := .int .i64 _) rfl) ?_
  refine dw_pureG (i := 12) rfl (by decide +kernel) rfl rfl (pv_of (v := .bool _) rfl) ?_
  refine dw_pure (i := 13) rfl (by decide +kernel) (pv_pickT rfl rfl (v := .bool _) rfl) ?_
  refine dw_pure (i := 14) rfl (by decide +kernel) (pv_move (v := .bool _) rfl) ?_
  refine dw_pureG (i := 15) rfl (by decide +kernel) rfl rfl (pv_move (v := .int .i64 _) rfl) ?_
  refine dw_pureG (i := 16) rfl (by decide +kernel) rfl rfl (pv_of (v := .bool _) rfl) ?_
  refine dw_pure (i := 17) rfl (by decide +kernel) (pv_pickT rfl rfl (v := .bool _) rfl) ?_
  refine dw_pure (i := 18) rfl (by decide +kernel) (pv_move (v := .bool _) rfl) ?_
  refine dw_pureG (i := 19) rfl (by decide +kernel) rfl rfl (pv_move (v := .int .i64 _) rfl) ?_
  refine dw_pureG (i := 20) rfl (by decide +kernel) rfl rfl (pv_of (v := .bool _) rfl) ?_
  refine dw_pure (i := 21) rfl (by decide +kernel) (pv_pickT rfl rfl (v := .bool _) rfl) ?_
  refine dw_pure (i := 22) rfl (by decide +kernel) (pv_move (v := .bool _) rfl) ?_
  refine dw_pureG (i := 23) rfl (by decide +kernel) rfl rfl (pv_move (v := .int .i64 _) rfl) ?_
  refine dw_pureG (i := 24) rfl (by decide +kernel) rfl rfl (pv_of (v := .bool _) rfl) ?_
  refine dw_pure (i := 25) rfl (by decide +kernel) (pv_pickT rfl rfl (v := .bool _) rfl) ?_
  refine dw_pure (i := 26) rfl (by decide +kernel) (pv_move (v := .bool _) rfl) ?_
  refine dw_pureG (i := 27) rfl (by decide +kernel) rfl rfl (pv_move (v := .slice _ _ _) rfl) ?_
  refine dw_lastH (i := 28) rfl (by decide +kernel) (by decide +kernel) rfl rfl ?_
  refine op_buildSlice (zc := [_]) (vs := [(0, .int .i64 _), (1, .int .i64 _), (2, .int .i64 _), (3, .int .i64 _)]) (cs := [_, _, _, _]) rfl rfl rfl rfl rfl rfl rfl fun b75 hb75 => ?_
  refine dw_norm [_, _, _, _, _, _, _] rfl ?_
  refine dw_pub 6 rfl ?_
  intro g1 F1 q1
  refine dw_norm [_, _, _, _, _, _, _] rfl ?_
  refine dw_lastH (i := 29) rfl (by decide +kernel) (by decide +kernel) rfl rfl ?_
  refine op_fn (caps := []) (vs := [.slice _ _ _, .slice _ _ _]) rfl rfl rfl (sameInts_ok [4, 3, 1, 0] [4, 3, 1, 0] _ _ _ _ g1 (S4.ext (Ext.trans (Ext.trans (Ext.trans (Ext.trans (Ext.trans (Ext.trans (Ext.trans (Ext.trans (Ext.trans (Ext.trans (Ext.trans (Ext.trans (Ext.trans (Ext.trans (Ext.trans E5 E6) E7) E8) E9) E10) E11) E12) E13) E14) E15) E16) E17) E18) E19) F1)) (row_of_block (enc := intC) (m := 1) (l := [4, 3, 1, 0]) (fun _ _ => rfl) q1) (by decide)) ?_
  rintro _ g2 F2 rfl
  refine dw_pure (i := 30) rfl (by decide +kernel) (pv_pickT rfl rfl (v := .bool _) rfl) ?_
  refine dw_pure (i := 31) rfl (by decide +kernel) (pv_move (v := .bool _) rfl) ?_
  refine dw_pureG (i := 32) rfl (by decide +kernel) rfl rfl (pv_move (v := .slice _ _ _) rfl) ?_
  refine dw_lastH (i := 33) rfl (by decide +kernel) (by decide +kernel) rfl rfl ?_
  refine op_buildSlice (zc := [_]) (vs := [(0, .int .i64 _), (1, .int .i64 _), (2, .int .i64 _)]) (cs := [_, _, _]) rfl rfl rfl rfl rfl rfl rfl fun b80 hb80 => ?_
  refine dw_norm [_, _, _, _, _, _, _, _] rfl ?_
  refine dw_lastH (i := 34) rfl (by decide +kernel) (by decide +kernel) rfl rfl ?_
  refine op_buildSlice (zc := [_]) (vs := [(0, .int .i64 _)]) (cs := [_]) rfl rfl rfl rfl rfl rfl rfl fun b81 hb81 => ?_
  refine dw_norm [_, _, _, _, _, _, _, _, _] rfl ?_
  refine dw_lastH (i := 35) rfl (by decide +kernel) (by decide +kernel) rfl rfl ?_
  refine op_buildSlice (zc := [_]) (vs := [(0, .slice _ _ _), (1, .slice _ _ _)]) (cs := [_, _]) rfl rfl rfl rfl rfl rfl rfl fun b82 hb82 => ?_
  refine dw_norm [_, _, _, _, _, _, _, _, _, _] rfl ?_
  refine dw_pub 7 rfl ?_
  intro g3 F3 q3
  refine dw_norm [_, _, _, _, _, _, _, _, _, _] rfl ?_
  refine dw_pub 8 rfl ?_
  intro g4 F4 q4
  refine dw_norm [_, _, _, _, _, _, _, _, _, _] rfl ?_
  refine dw_pub 9 rfl ?_
  intro g5 F5 q5
  refine dw_norm [_, _, _, _, _, _, _, _, _, _] rfl ?_
  have RL : Row g5 1 id (some ⟨b82, 0, none⟩) [[.slice (some ⟨b80, 0, none⟩) 3 3], [.slice (some ⟨b81, 0, none⟩) 1 1]] := row_of_block (enc := id) (m := 1) (l := [[.slice (some ⟨b80, 0, none⟩) 3 3], [.slice (some ⟨b81, 0, none⟩) 1 1]]) (fun x hx => by simp at hx; rcases hx with rfl | rfl <;> rfl) q5
  have EL : Els g5 TL [[0, 1, 2], [1]] [[.slice (some ⟨b80, 0, none⟩) 3 3], [.slice (some ⟨b81, 0, none⟩) 1 1]] := by
    refine ⟨rfl, fun i x c h1 h2 => ?_⟩
    match i, h1, h2 with
    | 0, h1, h2 => cases h1; cases h2; exact ⟨_, rfl, some ⟨b80, 0, none⟩, 3, rfl, (row_of_block (enc := intC) (m := 1) (l := [0, 1, 2]) (fun _ _ => rfl) q3).ext (Ext.trans F4 F5)⟩
    | 1, h1, h2 => cases h1; cases h2; exact ⟨_, rfl, some ⟨b81, 0, none⟩, 1, rfl, (row_of_block (enc := intC) (m := 1) (l := [1]) (fun _ _ => rfl) q4).ext F5⟩
    | i + 2, h1, h2 => simp at h1
  refine dw_lastH (i := 36) rfl (by decide +kernel) (by decide +kernel) rfl rfl ?_
  refine op_fn (caps := []) (vs := [.slice _ _ _, .slice _ _ _]) rfl rfl rfl (sameLists_ok [[0, 1, 2], [1]] [[0, 1, 2], [1]] _ _ _ _ cs11 _ g5 (R11.ext (Ext.trans (Ext.trans (Ext.trans (Ext.trans (Ext.trans (Ext.trans (Ext.trans (Ext.trans (Ext.trans (Ext.trans (Ext.trans (Ext.trans E12 E13) E14) E15) E16) E17) E18) E19) F1) F2) F3) F4) F5)) (L11.ext TL.mono (Ext.trans (Ext.trans (Ext.trans (Ext.trans (Ext.trans (Ext.trans (Ext.trans (Ext.trans (Ext.trans (Ext.trans (Ext.trans (Ext.trans E12 E13) E14) E15) E16) E17) E18) E19) F1) F2) F3) F4) F5)) RL EL (by decide) (by decide)) ?_
  rintro _ g6 F6 rfl
  refine dw_pure (i := 37) rfl (by decide +kernel) (pv_pickT rfl rfl (v := .bool _) rfl) ?_
  refine dw_pure (i := 38) rfl (by decide +kernel) (pv_move (v := .bool _) rfl) ?_
  refine dw_pureG (i := 39) rfl (by decide +kernel) rfl rfl (pv_move (v := .slice _ _ _) rfl) ?_
  refine dw_lastH (i := 40) rfl (by decide +kernel) (by decide +kernel) rfl rfl ?_
  refine op_buildSlice (zc := [_]) (vs := [(0, .int .i64 _), (1, .int .i64 _)]) (cs := [_, _]) rfl rfl rfl rfl rfl rfl rfl fun b87 hb87 => ?_
  refine dw_norm [_, _, _, _, _, _, _, _, _, _, _] rfl ?_
  refine dw_pub 10 rfl ?_
  intro g7 F7 q7
  refine dw_norm [_, _, _, _, _, _, _, _, _, _, _] rfl ?_
  refine dw_lastH (i := 41) rfl (by decide +kernel) (by decide +kernel) rfl rfl ?_
  refine op_fn (caps := []) (vs := [.slice _ _ _, .slice _ _ _]) rfl rfl rfl (sameInts_ok [1, 9] [1, 9] _ _ _ _ g7 (S15.ext (Ext.trans (Ext.trans (Ext.trans (Ext.trans (Ext.trans (Ext.trans (Ext.trans (Ext.trans (Ext.trans (Ext.trans E16 E17) E18) E19) F1) F2) F3) F4) F5) F6) F7)) (row_of_block (enc := intC) (m := 1) (l := [1, 9]) (fun _ _ => rfl) q7) (by decide)) ?_
  rintro _ g8 F8 rfl
  refine dw_pure (i := 42) rfl (by decide +kernel) (pv_pickT rfl rfl (v := .bool _) rfl) ?_
  refine dw_pure (i := 43) rfl (by decide +kernel) (pv_move (v := .bool _) rfl) ?_
  refine dw_loadG (i := 44) rfl (by decide +kernel) rfl rfl ?_
  refine op_loadPA 5 (vs := [.slice _ _ _, .slice _ _ _]) rfl rfl rfl rfl rfl ?_
  refine dw_effH (i := 45) rfl (by decide +kernel) rfl rfl ?_
  refine op_buildSlice (zc := [_]) (vs := [(0, .int .i64 _)]) (cs := [_]) rfl rfl rfl rfl rfl rfl rfl fun b92 hb92 => ?_
  refine ⟨ext_new hb92 _, ?_⟩
  refine dw_norm [_, _, _, _, _, _, _, _, _, _, _, _] rfl ?_
  refine dw_pub 11 rfl ?_
  intro g9 F9 q9
  refine dw_norm [_, _, _, _, _, _, _, _, _, _, _, _] rfl ?_
  refine dw_effH (i := 46) rfl (by decide +kernel) rfl rfl ?_
  refine op_fn (caps := []) (vs := [.slice _ _ _]) rfl rfl rfl (pressed_ok [1] _ _ g9) ?_
  rintro _ g10 F10 rfl
  refine ⟨ext_wlm F10 _, ?_⟩
  refine dw_lastH (i := 47) rfl (by decide +kernel) (by decide +kernel) rfl rfl ?_
  refine op_fn (caps := []) (vs := [.agg _, .agg _]) rfl rfl rfl (sameHands_ok ⟨[1], []⟩ ⟨[1], []⟩ _ _ _ _ _ _ _ _ g10 (RH.ext (Ext.trans (Ext.trans (Ext.trans (Ext.trans (Ext.trans (Ext.trans (Ext.trans (Ext.trans (Ext.trans F1 F2) F3) F4) F5) F6) F7) F8) F9) F10)) ⟨(row_of_block (enc := intC) (m := 1) (l := [1]) (fun _ _ => rfl) q9).ext F10, row_nil _ _⟩ (by decide) (by decide)) ?_
  rintro _ g11 F11 rfl
  refine dw_pure (i := 48) rfl (by decide +kernel) (pv_pickT rfl rfl (v := .bool _) rfl) ?_
  refine dw_pure (i := 49) rfl (by decide +kernel) (pv_assign (v := .bool _) rfl) ?_
  refine dw_end rfl ?_
  refine xp_ret ?_
  refine res_list (vs := [_]) Try.results28 ⟨resV_tmp rfl rfl, trivial⟩ fun V => ?_
  exact ⟨(Ext.trans (Ext.trans (Ext.trans (Ext.trans (Ext.trans (Ext.trans (Ext.trans (Ext.trans (Ext.trans (Ext.trans (Ext.trans (Ext.trans (Ext.trans (Ext.trans (Ext.trans (Ext.trans (Ext.trans (Ext.trans (Ext.trans (Ext.trans (Ext.trans (Ext.trans (Ext.trans (Ext.trans (Ext.trans (Ext.trans (Ext.trans (Ext.trans (Ext.trans (Ext.trans E1 E2) E3) E4) E5) E6) E7) E8) E9) E10) E11) E12) E13) E14) E15) E16) E17) E18) E19) F1) F2) F3) F4) F5) F6) F7) F8) F9) F10) F11) (ext_wl V)), rfl⟩
end
end Go.Proofs.Ythphpbdmbmiaiaa
/- The own logic, part GQ: quotients and remainders of ints. Conditions: none. -/
namespace Go.HL
open Go
variable [Lvl]
section
variable {P : Program} {n : Nat} {d : Option Tmp} {ty : TypeId} {ps : String} {af : Array Edge} {S : Sl} {t u : TypeId} {x y : Operand}
theorem pv_remT {a b : Int} (hx : ev n S x = .int .i64 a) (hy : ev n S y = .int .i64 b) (hb : b ≠ 0) :
    pev P (execOp (ev n S) ⟨d, .binOp .rem t x y u, ty, ps, af, none⟩) = some (.value (.int .i64 (a.tmod b))) := by
  simp only [execOp, hx, hy, binOp, Op.intDiv, if_neg hb]
  rfl
theorem pv_quoT {a b c : Int} (hx : ev n S x = .int .i64 a) (hy : ev n S y = .int .i64 b) (hb : b ≠ 0) (hc : a.tdiv b = c) (h : -2 ^ 63 ≤ c ∧ c < 2 ^ 63) :
    pev P (execOp (ev n S) ⟨d, .binOp .quo t x y u, ty, ps, af, none⟩) = some (.value (.int .i64 c)) := by
  subst hc
  have e : IntKind.wrap .i64 (a.tdiv b) = a.tdiv b := IntWalk.i64_in _ ⟨by omega, by omega⟩
  simp only [execOp, hx, hy, binOp, Op.intDiv, if_neg hb, e]
  rfl
end
end Go.HL
/- Plain: other numbers of rods and levers, another order of pins. Conditions: none. -/
namespace Go.Rd
open Go Go.HL Go.Wx
variable [Lvl]
/-- Rods renamed by s. -/
def renL (s : Int → Int) (l : LinkP) : LinkP := ⟨s l.frm, s l.to, l.reg, l.lag⟩
structure RenR (s : Int → Int) (m m' : MachP) : Prop where
  rods : m'.rods = m.rods
  bd : ∀ r, 0 ≤ r → r < m.rods → 0 ≤ s r ∧ s r < m.rods
  btn : m'.buttons = m.buttons.map s
  links : m'.links = m.links.map (renL s)
/-- Renamed, and back. -/
structure Inv (s t : Int → Int) (n : Int) : Prop where
  sb : ∀ r, 0 ≤ r → r < n → 0 ≤ s r ∧ s r < n
  tb : ∀ r, 0 ≤ r → r < n → 0 ≤ t r ∧ t r < n
  ts : ∀ r, 0 ≤ r → r < n → t (s r) = r
  st : ∀ r, 0 ≤ r → r < n → s (t r) = r
end Go.Rd
/- Plain: sums in any order; rods that nothing turns. Conditions: none. -/
namespace Go.Rd
open Go Go.HL Go.Wx
variable [Lvl]
end Go.Rd
/- Plain: buttons that are pressed down less deep. Conditions: none. -/
namespace Go.Rd
open Go Go.HL Go.Wx
variable [Lvl]
theorem turn_deep {m : MachP} {a : HandP} {d D : Int} (F : Fit m a) (hd : 0 ≤ d) (hD : d ≤ D) {r : Int} (hr : 0 ≤ r) : turnF m a d r = max 0 (turnF m a D r - (D - d)) := by
  have cD := turned_clo (depth := D) F (by omega)
  have cd := turned_clo (depth := d) F hd
  have u := turned_least F (depth := d) (f := fun r => max 0 (turnF m a D r - (D - d))) ⟨fun r hr => Int.le_max_left _ _, fun b hb => by
      have := cD.press b hb
      show d ≤ max 0 _
      omega, fun l hl ha => by
      have := cD.link l hl ha
      have := F.lag l hl
      show max 0 _ - _ ≤ max 0 _
      omega⟩ r hr
  have w := turned_least F (depth := D) (f := fun r => turnF m a d r + (D - d)) ⟨fun r hr => by
      have := cd.zero r hr
      show 0 ≤ turnF m a d r + (D - d)
      omega, fun b hb => by
      have := cd.press b hb
      show D ≤ turnF m a d _ + (D - d)
      omega, fun l hl ha => by
      have := cd.link l hl ha
      show turnF m a d _ + (D - d) - _ ≤ turnF m a d _ + (D - d)
      omega⟩ r hr
  have z := cd.zero r hr
  omega
theorem lift_deep {m : MachP} {a : HandP} {d D : Int} (F : Fit m a) (hd : 0 ≤ d) (hD : d ≤ D) (hp : ∀ p ∈ m.pins, 0 ≤ p.rod ∧ 0 ≤ p.lever ∧ 0 ≤ p.lag) {v : Int} (h0 : 0 ≤ v) (hv : v < m.levers) : liftF m a d v = max 0 (liftF m a D v - (D - d)) := by
  have key : ∀ x, 0 ≤ x → (liftF m a d v ≤ x ↔ liftF m a D v ≤ x + (D - d)) := by
    intro x hx
    rw [liftF_iff m a d h0 hv (fun p h => (hp p h).2.1), liftF_iff m a D h0 hv (fun p h => (hp p h).2.1)]
    constructor
    · rintro ⟨_, k⟩
      refine ⟨by omega, fun p hm e => ?_⟩
      have := k p hm e
      rw [turn_deep F hd hD (hp p hm).1] at this
      omega
    · rintro ⟨_, k⟩
      refine ⟨hx, fun p hm e => ?_⟩
      have := k p hm e
      rw [turn_deep F hd hD (hp p hm).1]
      have := (hp p hm).2.2
      omega
  have z := lift_nonneg m a d h0 hv (fun p h => (hp p h).2.1)
  have a1 := (key _ z).1 (Int.le_refl _)
  have a2 := (key (max 0 (liftF m a D v - (D - d))) (Int.le_max_left _ _)).2 (by omega)
  omega
/-- Turns hang on buttons, links and depth alone. -/
theorem turned_same {m m' : MachP} (a : HandP) (depth : Int) (hb : m'.buttons = m.buttons) (hl : m'.links = m.links) : turnedM m' a depth = turnedM m a depth := by
  have e : stepM m' a depth = stepM m a depth := by funext t; unfold stepM; rw [hb, hl]
  have s : ∀ n t, sendsM m' a depth n t = sendsM m a depth n t := by
    intro n
    induction n with
    | zero => intro t; rfl
    | succ n ih => intro t; unfold sendsM; rw [e]; split <;> simp [ih]
  unfold turnedM
  rw [s]
theorem lifted_same {m m' : MachP} (t : List Int) (hp : m'.pins = m.pins) (hl : m'.levers = m.levers) : liftedM m' t = liftedM m t := by unfold liftedM; rw [hp, hl]
theorem lift_le {m : MachP} {a : HandP} {D : Int} (F : Fit m a) (hD : 0 ≤ D) (hp : ∀ p ∈ m.pins, 0 ≤ p.rod ∧ 0 ≤ p.lever ∧ 0 ≤ p.lag) {v : Int} (h0 : 0 ≤ v) (hv : v < m.levers) : liftF m a D v ≤ D :=
  (liftF_iff m a D h0 hv (fun p h => (hp p h).2.1) D).2 ⟨hD, fun p hm _ => by
    have := (turnF_bd F hD p.rod).2
    have := (hp p hm).2.2
    omega⟩
end Go.Rd
/- Walks: machines and hands that are made of numbers, copies. Conditions: as each theorem states. -/
namespace Go.Proofs.Ythphpbdmbmiaiaa
open Go Go.HL Go.Proofs Go.Wx Go.Rd
section
variable [Lvl]
set_option maxRecDepth 100000
theorem tmod_gt (x : Int) {n : Int} (hn : 0 < n) : -n < x.tmod n := by
  by_cases h : 0 ≤ x
  · have := Int.tmod_nonneg n h; omega
  · obtain ⟨y, rfl⟩ : ∃ y, x = -y := ⟨-x, by omega⟩
    rw [Int.neg_tmod]
    have := Int.tmod_lt_of_pos y hn
    omega
def turnI (x n : Int) : Int := if n < 2 then 0 else (x.tmod n + n).tmod n
theorem turnI_bd (x n : Int) : 0 ≤ turnI x n ∧ (1 ≤ n → turnI x n < n) := by
  unfold turnI
  split
  · omega
  · rename_i h
    have h1 : -n < x.tmod n := tmod_gt x (by omega)
    have h2 : 0 ≤ x.tmod n + n := by omega
    exact ⟨Int.tmod_nonneg n h2, fun _ => Int.tmod_lt_of_pos _ (by omega)⟩
theorem turnI_ne {f d n : Int} (hn : 2 ≤ n) (h0 : 0 ≤ f ∧ f < n) (hd : 1 ≤ d ∧ d < n) : turnI (f + d) n ≠ f := by
  unfold turnI
  rw [if_neg (by omega)]
  rw [Int.tmod_eq_emod_of_nonneg (by omega : 0 ≤ f + d), Int.tmod_eq_emod_of_nonneg (by have := Int.emod_nonneg (f + d) (by omega : n ≠ 0); omega)]
  rw [Int.add_emod_right, Int.emod_emod]
  intro e
  by_cases h : f + d < n
  · rw [Int.emod_eq_of_lt (by omega) h] at e; omega
  · have : (f + d) % n = f + d - n := by
      rw [← Int.sub_emod_right (f + d) n, Int.emod_eq_of_lt (by omega) (by omega)]
    omega
theorem Turn_ok (x n : Int) (hn : n ≤ 2 ^ 40) (h : AH) : FnT Try.prog 71 #[.int .i64 x, .int .i64 n] h (fun v _ => v = .int .i64 (turnI x n)) := by
  refine call_body Try.func71 rfl Try.ntmps71 rfl ?_
  refine xp_seq ?_
  refine xp_region rfl ?_
  refine op_pure (pv_assign (v := .int .i64 _) rfl) ?_
  refine xp_seq ?_
  refine xp_seq ?_
  refine xp_region rfl ?_
  refine op_pure (pv_move (v := .int .i64 _) rfl) ?_
  refine op_pure (pv_of (v := .bool _) rfl) ?_
  refine xp_cond rfl (fun ht => ?_) (fun ht => ?_)
  · skip
    have ht' : n < 2 := of_decide_eq_true ht
    refine xp_seq ?_
    refine xp_region rfl ?_
    refine op_pure (pv_assign (v := .int .i64 _) rfl) ?_
    refine xp_ret ?_
    refine res_list (vs := [_]) Try.results71 ⟨resV_tmp rfl rfl, trivial⟩ fun V => ?_
    exact ⟨(ext_wl V), intE (by rw [turnI, if_pos ht'])⟩
  · skip
    have ht' : ¬ n < 2 := of_decide_eq_false ht
    have h1 : -n < x.tmod n := tmod_gt x (by omega)
    have h2 : x.tmod n < n := Int.tmod_lt_of_pos _ (by omega)
    refine xp_skip ?_
    refine xp_seq ?_
    refine xp_region rfl ?_
    refine op_pure (pv_move (v := .int .i64 _) rfl) ?_
    refine op_pure (pv_move (v := .int .i64 _) rfl) ?_
    refine op_pure (pv_remT rfl rfl (by omega)) ?_
    refine op_pure (pv_move (v := .int .i64 _) rfl) ?_
    refine op_pure (pv_arith rfl (by omega)) ?_
    refine op_pure (pv_move (v := .int .i64 _) rfl) ?_
    refine op_pure (pv_remT rfl rfl (by omega)) ?_
    refine op_pure (pv_assign (v := .int .i64 _) rfl) ?_
    refine xp_ret ?_
    refine res_list (vs := [_]) Try.results71 ⟨resV_tmp rfl rfl, trivial⟩ fun V => ?_
    exact ⟨(ext_wl V), intE (by rw [turnI, if_neg ht'])⟩
/-- A machine that is made of numbers. -/
structure Made (size pins links : Int) (m : MachP) : Prop where
  ok : MOK m
  rs : m.rods ≤ size
  ls : m.levers ≤ size
  bl : m.buttons.length ≤ 3
  pl : (m.pins.length : Int) ≤ pins
  ll : (m.links.length : Int) ≤ links
theorem mem_one {α : Type} {P : α → Prop} {l : List α} {z : α} (h : ∀ x ∈ l, P x) (hz : P z) : ∀ x ∈ l ++ [z], P x := fun x hx => by
  rcases List.mem_append.1 hx with hx | hx
  · exact h x hx
  · simp at hx; subst hx; exact hz
set_option maxHeartbeats 8000000 in
theorem MachineOf_ok (b x : Nat) (size pins links : Int) (hs : 1 ≤ size ∧ size ≤ 6) (hp : 0 ≤ pins ∧ pins ≤ 8) (hl : 0 ≤ links ∧ links ≤ 4) (h : AH) :
    FnM Try.prog (.func (.func 18) #[] ([] : List Value).toArray) [.pointer (some ⟨b, 0, none⟩), .int .i64 size, .int .i64 pins, .int .i64 links] h [some (b, .cells #[.int .u64 (x : Int)] 97 (0, 0))]
    (fun v h' M' => ∃ (x' : Nat) (m : MachP), M' = [some (b, .cells #[.int .u64 (x' : Int)] 97 (0, 0))] ∧ MachV h' m v ∧ Made size pins links m) := by
  refine fnM_body rfl rfl Try.func18 rfl Try.ntmps18 rfl ?_
  refine xp_seq ?_
  refine xp_region rfl ?_
  refine op_alloc (cs := [_, _, _, _, _, _, _, _, _]) rfl rfl fun b8 hb8 => ?_
  refine wp_norm [_, _] rfl ?_
  refine xp_seq ?_
  refine xp_region rfl ?_
  refine op_pure (pv_move (v := .pointer (some ⟨b, 0, none⟩)) rfl) ?_
  refine op_pure (pv_move (v := .int .i64 _) rfl) ?_
  refine op_pure (pv_min rfl rfl) ?_
  refine op_fnMM [] [_] [_] (vs := [.pointer _, .int .i64 _, .int .i64 _]) rfl rfl rfl ((Within_ok b x 1 (min size 6) (by omega) (by omega) (by omega) h)) ?_
  rintro _ h1 _ E1 ⟨x1, r, rfl, rfl, r1, r2⟩
  refine wp_norm [_, _] rfl ?_
  refine op_pure (pv_move (v := .pointer (some ⟨b, 0, none⟩)) rfl) ?_
  refine op_pure (pv_move (v := .int .i64 _) rfl) ?_
  refine op_pure (pv_min rfl rfl) ?_
  refine op_fnMM [] [_] [_] (vs := [.pointer _, .int .i64 _, .int .i64 _]) rfl rfl rfl ((Within_ok b x1 1 (min size 6) (by omega) (by omega) (by omega) h1)) ?_
  rintro _ h2 _ E2 ⟨x2, v, rfl, rfl, v1, v2⟩
  refine wp_norm [_, _] rfl ?_
  refine op_pure (pv_move (v := .pointer (some ⟨b, 0, none⟩)) rfl) ?_
  refine op_fnMM [] [_] [_] (vs := [.pointer _, .int .i64 _]) rfl rfl rfl ((Upto_ok b x2 2 (by omega) h2)) ?_
  rintro _ h3 _ E3 ⟨x3, g, rfl, rfl, g1, g2⟩
  refine wp_norm [_, _] rfl ?_
  refine op_pure (pv_move (v := .pointer (some ⟨b, 0, none⟩)) rfl) ?_
  refine op_fnMM [] [_] [_] (vs := [.pointer _, .int .i64 _, .int .i64 _]) rfl rfl rfl ((Within_ok b x3 2 12 (by omega) (by omega) (by omega) h3)) ?_
  rintro _ h4 _ E4 ⟨x4, t, rfl, rfl, t1, t2⟩
  refine wp_norm [_, _] rfl ?_
  refine op_pure (pv_build (zc := [_, _, _, _, _, _, _, _, _]) (vs := [(0, .int .i64 _), (1, .int .i64 _), (2, .int .i64 _), (3, .int .i64 _)]) (cs := [_, _, _, _, _, _, _, _, _]) rfl rfl rfl rfl rfl rfl) ?_
  refine op_alloc (cs := [_, _, _, _, _, _, _, _, _]) rfl rfl fun b9 hb9 => ?_
  refine wp_norm [_, _, _] rfl ?_
  refine op_storeP 2 (v := .agg #[.int .i64 _, .int .i64 _, .int .i64 _, .int .i64 _, .int .i64 _, .slice _ _ _, .slice _ _ _, .slice _ _ _, .slice _ _ _]) (vs := [_, _, _, _, _, _, _, _, _]) (c' := [_, _, _, _, _, _, _, _, _]) rfl rfl rfl rfl rfl rfl rfl rfl rfl ?_
  refine wp_norm [_, _, _] rfl ?_
  refine xp_seq ?_
  refine xp_region rfl ?_
  refine op_pure (pv_move (v := .pointer (some ⟨b, 0, none⟩)) rfl) ?_
  refine op_pure (pv_fieldAddr rfl rfl rfl rfl 3 rfl) ?_
  refine op_loadP 2 (v := .int .i64 _) rfl rfl rfl rfl ?_
  refine op_pure (pv_quoT (c := t / 3) rfl rfl (by omega) (Int.tdiv_eq_ediv_of_nonneg (by omega)) (by omega)) ?_
  refine op_pure (pv_max rfl rfl) ?_
  refine op_fnMM [] [_] [_, _] (vs := [.pointer _, .int .i64 _, .int .i64 _]) rfl rfl rfl ((Within_ok b x4 1 (max 1 (t / 3)) (by omega) (by omega) (by omega) h4)) ?_
  rintro _ h5 _ E5 ⟨x5, o, rfl, rfl, o1, o2⟩
  refine wp_norm [_, _, _] rfl ?_
  refine op_pure (pv_fieldAddr rfl rfl rfl rfl 4 rfl) ?_
  refine op_storeP 2 (v := .int .i64 _) (vs := [_]) (c' := [_, _, _, _, _, _, _, _, _]) rfl rfl rfl rfl rfl rfl rfl rfl rfl ?_
  refine wp_norm [_, _, _] rfl ?_
  refine goes_more ?_
  refine goes_norm [_, _, _, _] rfl ?_
  refine goes_more ?_
  refine goes_norm [_, _, _, _, _] rfl ?_
  refine goes_more ?_
  refine goes_norm [_, _, _, _, _, _] rfl ?_
  refine goes_more ?_
  refine goes_norm [_, _, _, _, _, _, _] rfl ?_
  refine xp_seq ?_
  refine xp_seq ?_
  refine xp_region rfl ?_
  refine op_pure (pv_move (v := .pointer (some ⟨b, 0, none⟩)) rfl) ?_
  refine op_fnMM [] [_] [_, _, _, _, _, _] (vs := [.pointer _, .int .i64 _]) rfl rfl rfl ((Upto_ok b x5 3 (by omega) h5)) ?_
  rintro _ h6 _ E6 ⟨x6, i0, rfl, rfl, i01, i02⟩
  refine wp_norm [_, _, _, _, _, _, _] rfl ?_
  refine op_pure (pv_assign (v := .int .i64 _) rfl) ?_
  refine xp_block ?_
  refine xp_loopL [10, 37, 38, 39, 40, 41, 42, 43, 44, 45, 46, 47, 48, 49, 50] 7 (α := Int × Nat × List Int × Acc) (fun ⟨i, y, bs, a⟩ => [(10, .int .i64 i)]) (fun ⟨i, y, bs, a⟩ L => ((L.set 0 (some (b, .cells #[.int .u64 (y : Int)] 97 (0, 0)))).set 2 (some (b9, .cells #[.int .i64 r, .int .i64 v, .int .i64 g, .int .i64 t, .int .i64 o, .slice a.A a.n a.c, .slice none 0 0, .slice none 0 0, .slice none 0 0] 28 (0, 0)))).set 3 (a.p)) (fun ⟨i, y, bs, a⟩ h_i => (0 ≤ i ∧ i + bs.length ≤ 3) ∧ (∀ z ∈ bs, 0 ≤ z ∧ z < r) ∧ AccR 3 1 (bs.flatMap intC) a) (fun ⟨i, y, bs, a⟩ => i.toNat) ((i0, x6, [], acc0)) ⟨rfl, trivial⟩ (rfl) (⟨⟨by omega, by simp; omega⟩, fun _ hz => absurd hz List.not_mem_nil, accR0⟩) ?_
  rintro ⟨i, y, bs, a⟩ T1 h_i E_i J_i
  refine goes_norm [_, _, _, _, _, _, _] rfl ?_
  obtain ⟨⟨K1, K2⟩, K3, KA⟩ := J_i
  refine xp_seq ?_
  refine xp_seq ?_
  refine xp_region rfl ?_
  refine op_pure (pv_move (v := .int .i64 _) rfl) ?_
  refine op_pure (pv_of (v := .bool _) rfl) ?_
  refine xp_cond rfl (fun ht => ?_) (fun ht => ?_)
  · skip
    have hi : 0 < i := of_decide_eq_true ht
    refine xp_skip ?_
    refine xp_seq ?_
    refine xp_block ?_
    refine xp_dw [true, false, false, false, false, false, false] rfl rfl rfl ?_
    refine dw_pure (i := 0) rfl (by decide +kernel) (pv_fieldAddr rfl rfl rfl rfl 5 rfl) ?_
    refine dw_load (i := 1) rfl (by decide +kernel) ?_
    refine op_loadP 2 (v := .slice _ _ _) rfl rfl rfl rfl ?_
    refine dw_pure (i := 2) rfl (by decide +kernel) (pv_move (v := .pointer (some ⟨b, 0, none⟩)) rfl) ?_
    refine dw_pure (i := 3) rfl (by decide +kernel) (pv_fieldAddr rfl rfl rfl rfl 0 rfl) ?_
    refine dw_load (i := 4) rfl (by decide +kernel) ?_
    refine op_loadP 2 (v := .int .i64 _) rfl rfl rfl rfl ?_
    refine dw_pure (i := 5) rfl (by decide +kernel) (pv_arith rfl (by omega)) ?_
    refine dw_eff (i := 6) rfl (by decide +kernel) ?_
    refine op_fnMM [] [_] [_, _, _, _, _, _] (vs := [.pointer _, .int .i64 _]) rfl rfl rfl ((Upto_ok b y (r - 1) (by omega) h_i)) ?_
    rintro _ h7 _ E7 ⟨y2, z, rfl, rfl, z1, z2⟩
    refine ⟨ext_wlm E7 _, ?_⟩
    refine dw_norm [_, _, _, _, _, _, _] rfl ?_
    refine dw_eff (i := 7) rfl (by decide +kernel) ?_
    refine op_buildSlice (zc := [_]) (vs := [(0, .int .i64 _)]) (cs := [_]) rfl rfl rfl rfl rfl rfl rfl fun b48 hb48 => ?_
    refine ⟨ext_newM hb48 _, ?_⟩
    refine dw_norm [_, _, _, _, _, _, _, _] rfl ?_
    refine dw_last (i := 8) rfl (by decide +kernel) (by decide +kernel) ?_
    refine op_appendR 3 KA rfl rfl rfl (fun V => rdP V (i := 7) rfl) rfl rfl rfl rfl rfl rfl rfl rfl rfl (by omega) rfl (by rw [flat_len (m := 1) (fun _ _ => rfl)]; simp; omega) fun a2 h2a E2a ha2 => ?_
    refine dw_norm [_, _, _, _, _, _, _, _] rfl ?_
    refine dw_pure (i := 9) rfl (by decide +kernel) (pv_fieldAddr rfl rfl rfl rfl 5 rfl) ?_
    refine dw_last (i := 10) rfl (by decide +kernel) (by decide +kernel) ?_
    refine op_storeP 2 (v := .slice _ _ _) (vs := [_]) (c' := [_, _, _, _, _, _, _, _, _]) rfl rfl rfl rfl rfl rfl rfl rfl rfl ?_
    refine dw_norm [_, _, _, _, _, _, _, _] rfl ?_
    refine dw_end rfl ?_
    refine xp_region rfl ?_
    refine op_pure (pv_move (v := .int .i64 _) rfl) ?_
    refine op_pure (pv_arith rfl (by omega)) ?_
    refine op_pure (pv_assign (v := .int .i64 _) rfl) ?_
    refine ⟨(i - 1, y2, bs ++ [z], a2), ⟨rfl, trivial⟩, rfl, rfl, (Ext.trans (Ext.trans E_i E7) E2a), fun h3 E3 => ⟨⟨by omega, by simp; omega⟩, mem_one K3 ⟨z1, by omega⟩, by rw [List.flatMap_append]; exact ha2⟩, by first | omega | (dsimp only; omega), ?_⟩
    repeat (first | exact off_base _ _ _ | refine off_upd (by decide) ?_ | refine off_updL rfl ?_ | refine off_mix rfl ?_)
  · skip
    have hi0 : i = 0 := by have := of_decide_eq_false ht; omega
    obtain ⟨pB, AB, nB, cB⟩ := a
    obtain rfl : nB = bs.length := by have := AccR.len KA; rw [flat_len (m := 1) (fun _ _ => rfl)] at this; dsimp only at this; omega
    dsimp only at *
    refine goes_pubO 3 rfl ?_
    intro gB GB PB
    refine goes_norm [_, _, _, _, _, _, _] rfl ?_
    have RB : Row gB 1 intC AB bs := ⟨fun _ _ => rfl, AccR.rd KA PB⟩
    refine xp_exit ?_
    refine xp_seq ?_
    refine xp_seq ?_
    refine xp_region rfl ?_
    refine op_pure (pv_move (v := .pointer (some ⟨b, 0, none⟩)) rfl) ?_
    refine op_pure (pv_move (v := .int .i64 _) rfl) ?_
    refine op_fnMM [] [_] [_, _, _, _, _, _] (vs := [.pointer _, .int .i64 _]) rfl rfl rfl ((Upto_ok b y pins (by omega) gB)) ?_
    rintro _ h8 _ E8 ⟨x8, j0, rfl, rfl, j01, j02⟩
    refine wp_norm [_, _, _, _, _, _, _] rfl ?_
    refine op_pure (pv_assign (v := .int .i64 _) rfl) ?_
    refine xp_block ?_
    refine xp_loopL [11, 54, 55, 56, 57, 58, 59, 60, 61, 62, 63, 64, 65, 66, 67, 68, 69, 70, 71, 72, 73, 74, 75, 76, 77, 78] 7 (α := Int × Nat × List PinP × Acc) (fun ⟨j, y, qs, a⟩ => [(11, .int .i64 j)]) (fun ⟨j, y, qs, a⟩ L => ((L.set 0 (some (b, .cells #[.int .u64 (y : Int)] 97 (0, 0)))).set 2 (some (b9, .cells #[.int .i64 r, .int .i64 v, .int .i64 g, .int .i64 t, .int .i64 o, .slice AB bs.length cB, .slice a.A a.n a.c, .slice none 0 0, .slice none 0 0] 28 (0, 0)))).set 4 (a.p)) (fun ⟨j, y, qs, a⟩ h_j => (0 ≤ j ∧ j + qs.length ≤ pins) ∧ (∀ p ∈ qs, (0 ≤ p.rod ∧ p.rod < r) ∧ (0 ≤ p.lever ∧ p.lever < v) ∧ (0 ≤ p.lag ∧ p.lag ≤ t)) ∧ AccR 36 3 (qs.flatMap pinC) a) (fun ⟨j, y, qs, a⟩ => j.toNat) ((j0, x8, [], acc0)) ⟨rfl, trivial⟩ (rfl) (⟨⟨by omega, by simp; omega⟩, fun _ hz => absurd hz List.not_mem_nil, accR0⟩) ?_
    rintro ⟨j, y, qs, a⟩ T3 h_j E_j J_j
    refine goes_norm [_, _, _, _, _, _, _] rfl ?_
    obtain ⟨⟨L1, L2⟩, L3, KA⟩ := J_j
    refine xp_seq ?_
    refine xp_seq ?_
    refine xp_region rfl ?_
    refine op_pure (pv_move (v := .int .i64 _) rfl) ?_
    refine op_pure (pv_of (v := .bool _) rfl) ?_
    refine xp_cond rfl (fun hu => ?_) (fun hu => ?_)
    · skip
      have hj : 0 < j := of_decide_eq_true hu
      refine xp_skip ?_
      refine xp_seq ?_
      refine xp_block ?_
      refine xp_dw [true, false, false, false, false, false, false] rfl rfl rfl ?_
      refine dw_pure (i := 0) rfl (by decide +kernel) (pv_fieldAddr rfl rfl rfl rfl 6 rfl) ?_
      refine dw_load (i := 1) rfl (by decide +kernel) ?_
      refine op_loadP 2 (v := .slice _ _ _) rfl rfl rfl rfl ?_
      refine dw_pure (i := 2) rfl (by decide +kernel) (pv_move (v := .pointer (some ⟨b, 0, none⟩)) rfl) ?_
      refine dw_pure (i := 3) rfl (by decide +kernel) (pv_fieldAddr rfl rfl rfl rfl 0 rfl) ?_
      refine dw_load (i := 4) rfl (by decide +kernel) ?_
      refine op_loadP 2 (v := .int .i64 _) rfl rfl rfl rfl ?_
      refine dw_pure (i := 5) rfl (by decide +kernel) (pv_arith rfl (by omega)) ?_
      refine dw_pure (i := 7) rfl (by decide +kernel) (pv_move (v := .pointer (some ⟨b, 0, none⟩)) rfl) ?_
      refine dw_pure (i := 8) rfl (by decide +kernel) (pv_fieldAddr rfl rfl rfl rfl 1 rfl) ?_
      refine dw_load (i := 9) rfl (by decide +kernel) ?_
      refine op_loadP 2 (v := .int .i64 _) rfl rfl rfl rfl ?_
      refine dw_pure (i := 10) rfl (by decide +kernel) (pv_arith rfl (by omega)) ?_
      refine dw_pure (i := 12) rfl (by decide +kernel) (pv_move (v := .pointer (some ⟨b, 0, none⟩)) rfl) ?_
      refine dw_pure (i := 13) rfl (by decide +kernel) (pv_fieldAddr rfl rfl rfl rfl 3 rfl) ?_
      refine dw_load (i := 14) rfl (by decide +kernel) ?_
      refine op_loadP 2 (v := .int .i64 _) rfl rfl rfl rfl ?_
      refine dw_pure (i := 15) rfl (by decide +kernel) (pv_quoT (c := t / 2) rfl rfl (by omega) (Int.tdiv_eq_ediv_of_nonneg (by omega)) (by omega)) ?_
      refine dw_eff (i := 6) rfl (by decide +kernel) ?_
      refine op_fnMM [] [_] [_, _, _, _, _, _] (vs := [.pointer _, .int .i64 _]) rfl rfl rfl ((Upto_ok b y (r - 1) (by omega) h_j)) ?_
      rintro _ h9 _ E9 ⟨y2, z, rfl, rfl, z1, z2⟩
      refine ⟨ext_wlm E9 _, ?_⟩
      refine dw_norm [_, _, _, _, _, _, _] rfl ?_
      refine dw_eff (i := 11) rfl (by decide +kernel) ?_
      refine op_fnMM [] [_] [_, _, _, _, _, _] (vs := [.pointer _, .int .i64 _]) rfl rfl rfl ((Upto_ok b y2 (v - 1) (by omega) h9)) ?_
      rintro _ h10 _ E10 ⟨y3, w, rfl, rfl, w1, w2⟩
      refine ⟨ext_wlm E10 _, ?_⟩
      refine dw_norm [_, _, _, _, _, _, _] rfl ?_
      refine dw_eff (i := 16) rfl (by decide +kernel) ?_
      refine op_fnMM [] [_] [_, _, _, _, _, _] (vs := [.pointer _, .int .i64 _]) rfl rfl rfl ((Upto_ok b y3 (t / 2) (by omega) h10)) ?_
      rintro _ h11 _ E11 ⟨y4, e, rfl, rfl, e1, e2⟩
      refine ⟨ext_wlm E11 _, ?_⟩
      refine dw_norm [_, _, _, _, _, _, _] rfl ?_
      refine dw_pure (i := 17) rfl (by decide +kernel) (pv_build (zc := [_, _, _]) (vs := [(0, .int .i64 _), (1, .int .i64 _), (2, .int .i64 _)]) (cs := [_, _, _]) rfl rfl rfl rfl rfl rfl) ?_
      refine dw_eff (i := 18) rfl (by decide +kernel) ?_
      refine op_buildSlice (zc := [_, _, _]) (vs := [(0, .agg #[.int .i64 _, .int .i64 _, .int .i64 _])]) (cs := [_, _, _]) rfl rfl rfl rfl rfl rfl rfl fun b76 hb76 => ?_
      refine ⟨ext_newM hb76 _, ?_⟩
      refine dw_norm [_, _, _, _, _, _, _, _] rfl ?_
      refine dw_last (i := 19) rfl (by decide +kernel) (by decide +kernel) ?_
      refine op_appendR 4 KA rfl rfl rfl (fun V => rdP V (i := 7) rfl) rfl rfl rfl rfl rfl rfl rfl rfl rfl (by omega) rfl (by rw [flat_len (m := 3) (fun _ _ => rfl)]; simp; omega) fun a2 h4a E4a ha2 => ?_
      refine dw_norm [_, _, _, _, _, _, _, _] rfl ?_
      refine dw_pure (i := 20) rfl (by decide +kernel) (pv_fieldAddr rfl rfl rfl rfl 6 rfl) ?_
      refine dw_last (i := 21) rfl (by decide +kernel) (by decide +kernel) ?_
      refine op_storeP 2 (v := .slice _ _ _) (vs := [_]) (c' := [_, _, _, _, _, _, _, _, _]) rfl rfl rfl rfl rfl rfl rfl rfl rfl ?_
      refine dw_norm [_, _, _, _, _, _, _, _] rfl ?_
      refine dw_end rfl ?_
      refine xp_region rfl ?_
      refine op_pure (pv_move (v := .int .i64 _) rfl) ?_
      refine op_pure (pv_arith rfl (by omega)) ?_
      refine op_pure (pv_assign (v := .int .i64 _) rfl) ?_
      refine ⟨(j - 1, y4, qs ++ [⟨z, w, e⟩], a2), ⟨rfl, trivial⟩, rfl, rfl, (Ext.trans (Ext.trans (Ext.trans (Ext.trans E_j E9) E10) E11) E4a), fun h3 E3 => ⟨⟨by omega, by simp; omega⟩, mem_one L3 ⟨⟨z1, by show z < r; omega⟩, ⟨w1, by show w < v; omega⟩, ⟨e1, by show e ≤ t; omega⟩⟩, by rw [List.flatMap_append]; exact ha2⟩, by first | omega | (dsimp only; omega), ?_⟩
      repeat (first | exact off_base _ _ _ | refine off_upd (by decide) ?_ | refine off_updL rfl ?_ | refine off_mix rfl ?_)
    · skip
      have hj0 : j = 0 := by have := of_decide_eq_false hu; omega
      obtain ⟨pP, AQ, nP, cQ⟩ := a
      obtain rfl : nP = qs.length := by have := AccR.len KA; rw [flat_len (m := 3) (fun _ _ => rfl)] at this; dsimp only at this; omega
      dsimp only at *
      refine goes_pubO 4 rfl ?_
      intro gP GP PP
      refine goes_norm [_, _, _, _, _, _, _] rfl ?_
      have RP : Row gP 3 pinC AQ qs := ⟨fun _ _ => rfl, AccR.rd KA PP⟩
      refine xp_exit ?_
      refine xp_cutB [12, 13, 79, 80, 81, 82, 83, 84, 85, 86, 87, 88, 89, 90, 91, 92, 93, 94, 95, 96, 97, 98, 99, 100, 101, 102, 103, 104, 105, 106, 107, 108, 109, 110, 111, 112, 113, 114, 115, 116, 117, 118, 119, 120, 121, 122, 123, 124, 125] 7 (α := Nat × List LinkP × Acc) (fun ⟨y, ls, a⟩ => []) (fun ⟨y, ls, a⟩ L => ((L.set 0 (some (b, .cells #[.int .u64 (y : Int)] 97 (0, 0)))).set 2 (some (b9, .cells #[.int .i64 r, .int .i64 v, .int .i64 g, .int .i64 t, .int .i64 o, .slice AB bs.length cB, .slice AQ qs.length cQ, .slice a.A a.n a.c, .slice none 0 0] 28 (0, 0)))).set 5 (a.p)) (fun ⟨y, ls, a⟩ h_y => (ls.length : Int) ≤ links ∧ (∀ p ∈ ls, (0 ≤ p.frm ∧ p.frm < r) ∧ (0 ≤ p.to ∧ p.to < r) ∧ p.frm ≠ p.to ∧ (-1 ≤ p.reg ∧ p.reg < g) ∧ (1 ≤ p.lag ∧ p.lag ≤ t)) ∧ AccR 39 4 (ls.flatMap linkC) a) ?_ ?_
      · skip
        refine xp_seq ?_
        refine xp_region rfl ?_
        refine op_pure (pv_move (v := .pointer (some ⟨b, 0, none⟩)) rfl) ?_
        refine op_pure (pv_move (v := .int .i64 _) rfl) ?_
        refine op_fnMM [] [_] [_, _, _, _, _, _] (vs := [.pointer _, .int .i64 _]) rfl rfl rfl ((Upto_ok b y links (by omega) gP)) ?_
        rintro _ h12 _ E12 ⟨x12, k0, rfl, rfl, k01, k02⟩
        refine wp_norm [_, _, _, _, _, _, _] rfl ?_
        refine op_pure (pv_assign (v := .int .i64 _) rfl) ?_
        refine xp_block ?_
        refine xp_loopL [12, 13, 82, 83, 84, 85, 86, 87, 88, 89, 90, 91, 92, 93, 94, 95, 96, 97, 98, 99, 100, 101, 102, 103, 104, 105, 106, 107, 108, 109, 110, 111, 112, 113, 114, 115, 116, 117, 118, 119, 120, 121, 122, 123, 124, 125] 7 (α := Int × Nat × List LinkP × Acc) (fun ⟨k, y, ls, a⟩ => [(12, .int .i64 k)]) (fun ⟨k, y, ls, a⟩ L => ((L.set 0 (some (b, .cells #[.int .u64 (y : Int)] 97 (0, 0)))).set 2 (some (b9, .cells #[.int .i64 r, .int .i64 v, .int .i64 g, .int .i64 t, .int .i64 o, .slice AB bs.length cB, .slice AQ qs.length cQ, .slice a.A a.n a.c, .slice none 0 0] 28 (0, 0)))).set 5 (a.p)) (fun ⟨k, y, ls, a⟩ h_k => (0 ≤ k ∧ k + ls.length ≤ links) ∧ (∀ p ∈ ls, (0 ≤ p.frm ∧ p.frm < r) ∧ (0 ≤ p.to ∧ p.to < r) ∧ p.frm ≠ p.to ∧ (-1 ≤ p.reg ∧ p.reg < g) ∧ (1 ≤ p.lag ∧ p.lag ≤ t)) ∧ AccR 39 4 (ls.flatMap linkC) a) (fun ⟨k, y, ls, a⟩ => k.toNat) ((k0, x12, [], acc0)) ⟨rfl, trivial⟩ (rfl) (⟨⟨by omega, by simp; omega⟩, fun _ hz => absurd hz List.not_mem_nil, accR0⟩) ?_
        rintro ⟨k, y, ls, a⟩ T6 h_k E_k J_k
        refine goes_norm [_, _, _, _, _, _, _] rfl ?_
        obtain ⟨⟨N1, N2⟩, N3, KA⟩ := J_k
        refine xp_seq ?_
        refine xp_seq ?_
        refine xp_region rfl ?_
        refine op_pure (pv_move (v := .int .i64 _) rfl) ?_
        refine op_pure (pv_of (v := .bool _) rfl) ?_
        refine op_pure (pv_move (v := .bool _) rfl) ?_
        rcases Bool.eq_false_or_eq_true (decide (k > 0)) with hk | hk
        · skip
          have hk0 : k > 0 := of_decide_eq_true hk
          refine guard_yes rfl hk ?_
          refine op_pure (pv_fieldAddr rfl rfl rfl rfl 0 rfl) ?_
          refine guard_yes rfl hk ?_
          refine op_loadP 2 (v := .int .i64 _) rfl rfl rfl rfl ?_
          refine guard_yes rfl hk ?_
          refine op_pure (pv_of (v := .bool _) rfl) ?_
          refine op_pure (pv_pickT rfl hk (v := .bool _) rfl) ?_
          refine xp_cond rfl (fun hr => ?_) (fun hr => ?_)
          · skip
            have hr1 : r > 1 := of_decide_eq_true hr
            refine xp_skip ?_
            refine xp_seq ?_
            refine xp_block ?_
            refine xp_seq ?_
            refine xp_dw [true, false, false, false, false, false, false] rfl rfl rfl ?_
            refine dw_pure (i := 0) rfl (by decide +kernel) (pv_move (v := .pointer (some ⟨b, 0, none⟩)) rfl) ?_
            refine dw_pure (i := 1) rfl (by decide +kernel) (pv_fieldAddr rfl rfl rfl rfl 0 rfl) ?_
            refine dw_load (i := 2) rfl (by decide +kernel) ?_
            refine op_loadP 2 (v := .int .i64 _) rfl rfl rfl rfl ?_
            refine dw_pure (i := 3) rfl (by decide +kernel) (pv_arith rfl (by omega)) ?_
            refine dw_pure (i := 5) rfl (by decide +kernel) (pv_move (v := .pointer (some ⟨b, 0, none⟩)) rfl) ?_
            refine dw_pure (i := 6) rfl (by decide +kernel) (pv_fieldAddr rfl rfl rfl rfl 2 rfl) ?_
            refine dw_load (i := 7) rfl (by decide +kernel) ?_
            refine op_loadP 2 (v := .int .i64 _) rfl rfl rfl rfl ?_
            refine dw_pure (i := 8) rfl (by decide +kernel) (pv_arith rfl (by omega)) ?_
            refine dw_pure (i := 10) rfl (by decide +kernel) (pv_move (v := .pointer (some ⟨b, 0, none⟩)) rfl) ?_
            refine dw_pure (i := 11) rfl (by decide +kernel) (pv_fieldAddr rfl rfl rfl rfl 3 rfl) ?_
            refine dw_load (i := 12) rfl (by decide +kernel) ?_
            refine op_loadP 2 (v := .int .i64 _) rfl rfl rfl rfl ?_
            refine dw_pure (i := 13) rfl (by decide +kernel) (pv_quoT (c := t / 3) rfl rfl (by omega) (Int.tdiv_eq_ediv_of_nonneg (by omega)) (by omega)) ?_
            refine dw_pure (i := 14) rfl (by decide +kernel) (pv_max rfl rfl) ?_
            refine dw_eff (i := 4) rfl (by decide +kernel) ?_
            refine op_fnMM [] [_] [_, _, _, _, _, _] (vs := [.pointer _, .int .i64 _]) rfl rfl rfl ((Upto_ok b y (r - 1) (by omega) h_k)) ?_
            rintro _ h13 _ E13 ⟨y2, z, rfl, rfl, z1, z2⟩
            refine ⟨ext_wlm E13 _, ?_⟩
            refine dw_norm [_, _, _, _, _, _, _] rfl ?_
            refine dw_eff (i := 9) rfl (by decide +kernel) ?_
            refine op_fnMM [] [_] [_, _, _, _, _, _] (vs := [.pointer _, .int .i64 _, .int .i64 _]) rfl rfl rfl ((Within_ok b y2 (-1) (g - 1) (by omega) (by omega) (by omega) h13)) ?_
            rintro _ h14 _ E14 ⟨y3, e, rfl, rfl, e1, e2⟩
            refine ⟨ext_wlm E14 _, ?_⟩
            refine dw_norm [_, _, _, _, _, _, _] rfl ?_
            refine dw_last (i := 15) rfl (by decide +kernel) (by decide +kernel) ?_
            refine op_fnMM [] [_] [_, _, _, _, _, _] (vs := [.pointer _, .int .i64 _, .int .i64 _]) rfl rfl rfl ((Within_ok b y3 1 (max 1 (t / 3)) (by omega) (by omega) (by omega) h14)) ?_
            rintro _ h15 _ E15 ⟨y4, w, rfl, rfl, w1, w2⟩
            refine dw_norm [_, _, _, _, _, _, _] rfl ?_
            refine dw_pure (i := 16) rfl (by decide +kernel) (pv_build (zc := [_, _, _, _]) (vs := [(0, .int .i64 _), (2, .int .i64 _), (3, .int .i64 _)]) (cs := [_, _, _, _]) rfl rfl rfl rfl rfl rfl) ?_
            refine dw_eff (i := 17) rfl (by decide +kernel) ?_
            refine op_alloc (cs := [_, _, _, _]) rfl rfl fun b13 hb13 => ?_
            refine ⟨ext_newM hb13 _, ?_⟩
            refine dw_norm [_, _, _, _, _, _, _, _] rfl ?_
            refine dw_last (i := 18) rfl (by decide +kernel) (by decide +kernel) ?_
            refine op_storeP 7 (v := .agg #[.int .i64 _, .int .i64 _, .int .i64 _, .int .i64 _]) (vs := [_, _, _, _]) (c' := [_, _, _, _]) rfl rfl rfl rfl rfl rfl rfl rfl rfl ?_
            refine dw_norm [_, _, _, _, _, _, _, _] rfl ?_
            refine dw_end rfl ?_
            refine xp_seq ?_
            refine xp_dw [true, false, false, false, false, false, false, false] rfl rfl rfl ?_
            refine dw_pure (i := 0) rfl (by decide +kernel) (pv_fieldAddr rfl rfl rfl rfl 0 rfl) ?_
            refine dw_load (i := 1) rfl (by decide +kernel) ?_
            refine op_loadP 7 (v := .int .i64 _) rfl rfl rfl rfl ?_
            refine dw_pure (i := 2) rfl (by decide +kernel) (pv_move (v := .pointer (some ⟨b, 0, none⟩)) rfl) ?_
            refine dw_pure (i := 3) rfl (by decide +kernel) (pv_fieldAddr rfl rfl rfl rfl 0 rfl) ?_
            refine dw_load (i := 4) rfl (by decide +kernel) ?_
            refine op_loadP 2 (v := .int .i64 _) rfl rfl rfl rfl ?_
            refine dw_pure (i := 5) rfl (by decide +kernel) (pv_arith rfl (by omega)) ?_
            refine dw_pure (i := 8) rfl (by decide +kernel) (pv_fieldAddr rfl rfl rfl rfl 0 rfl) ?_
            refine dw_load (i := 9) rfl (by decide +kernel) ?_
            refine op_loadP 2 (v := .int .i64 _) rfl rfl rfl rfl ?_
            refine dw_eff (i := 6) rfl (by decide +kernel) ?_
            refine op_fnMM [] [_] [_, _, _, _, _, _, _] (vs := [.pointer _, .int .i64 _, .int .i64 _]) rfl rfl rfl ((Within_ok b y4 1 (r - 1) (by omega) (by omega) (by omega) h15)) ?_
            rintro _ h16 _ E16 ⟨y5, d, rfl, rfl, d1, d2⟩
            refine ⟨ext_wlm E16 _, ?_⟩
            refine dw_norm [_, _, _, _, _, _, _, _] rfl ?_
            refine dw_pure (i := 7) rfl (by decide +kernel) (pv_arith rfl (by omega)) ?_
            refine dw_last (i := 10) rfl (by decide +kernel) (by decide +kernel) ?_
            refine op_fn (caps := []) (vs := [.int .i64 _, .int .i64 _]) rfl rfl rfl (Turn_ok (z + d) r (by omega) h16) ?_
            rintro _ h17 E17 rfl
            have tb := turnI_bd (z + d) r
            have tn := turnI_ne (f := z) (d := d) (n := r) (by omega) ⟨z1, by omega⟩ ⟨d1, by omega⟩
            refine dw_pure (i := 11) rfl (by decide +kernel) (pv_fieldAddr rfl rfl rfl rfl 1 rfl) ?_
            refine dw_last (i := 12) rfl (by decide +kernel) (by decide +kernel) ?_
            refine op_storeP 7 (v := .int .i64 _) (vs := [_]) (c' := [_, _, _, _]) rfl rfl rfl rfl rfl rfl rfl rfl rfl ?_
            refine dw_norm [_, _, _, _, _, _, _, _] rfl ?_
            refine dw_end rfl ?_
            refine xp_region rfl ?_
            refine op_pure (pv_fieldAddr rfl rfl rfl rfl 7 rfl) ?_
            refine op_loadP 2 (v := .slice _ _ _) rfl rfl rfl rfl ?_
            refine op_loadPA 7 (vs := [.int .i64 _, .int .i64 _, .int .i64 _, .int .i64 _]) rfl rfl rfl rfl rfl ?_
            refine op_buildSlice (zc := [_, _, _, _]) (vs := [(0, .agg #[.int .i64 _, .int .i64 _, .int .i64 _, .int .i64 _])]) (cs := [_, _, _, _]) rfl rfl rfl rfl rfl rfl rfl fun b123 hb123 => ?_
            refine wp_norm [_, _, _, _, _, _, _, _, _] rfl ?_
            refine op_appendR 5 KA rfl rfl rfl (fun V => rdP V (i := 8) rfl) rfl rfl rfl rfl rfl rfl rfl rfl rfl (by omega) rfl (by rw [flat_len (m := 4) (fun _ _ => rfl)]; simp; omega) fun a2 h7a E7a ha2 => ?_
            refine wp_norm [_, _, _, _, _, _, _, _, _] rfl ?_
            refine op_pure (pv_fieldAddr rfl rfl rfl rfl 7 rfl) ?_
            refine op_storeP 2 (v := .slice _ _ _) (vs := [_]) (c' := [_, _, _, _, _, _, _, _, _]) rfl rfl rfl rfl rfl rfl rfl rfl rfl ?_
            refine wp_norm [_, _, _, _, _, _, _, _, _] rfl ?_
            refine xp_region rfl ?_
            refine op_pure (pv_move (v := .int .i64 _) rfl) ?_
            refine op_pure (pv_arith rfl (by omega)) ?_
            refine op_pure (pv_assign (v := .int .i64 _) rfl) ?_
            refine ⟨(k - 1, y5, ls ++ [⟨z, turnI (z + d) r, e, w⟩], a2), ⟨rfl, trivial⟩, rfl, rfl, (Ext.trans (Ext.trans (Ext.trans (Ext.trans (Ext.trans (Ext.trans E_k E13) E14) E15) E16) E17) E7a), fun h3 E3 => ⟨⟨by omega, by simp; omega⟩, mem_one N3 ⟨⟨z1, by show z < r; omega⟩, ⟨tb.1, tb.2 (by omega)⟩, fun he => tn he.symm, ⟨e1, by show e < g; omega⟩, ⟨w1, by show w ≤ t; omega⟩⟩, by rw [List.flatMap_append]; exact ha2⟩, by first | omega | (dsimp only; omega), ?_⟩
            repeat (first | exact off_base _ _ _ | refine off_upd (by decide) ?_ | refine off_updL rfl ?_ | refine off_mix rfl ?_)
          · skip
            refine xp_exit ?_
            refine ⟨(y, ls, a), trivial, rfl, rfl, (Ext.trans E12 E_k), fun h3 E3 => ⟨by omega, N3, KA⟩, ?_⟩
            repeat (first | exact off_refl _ _ | exact off_base _ _ _ | refine off_upd (by decide) ?_ | refine off_updL rfl ?_ | refine off_mix rfl ?_)
        · skip
          have hk0 : k = 0 := by have := of_decide_eq_false hk; omega
          refine guard_no rfl hk ?_
          refine guard_no rfl hk ?_
          refine guard_no rfl hk ?_
          refine op_pure (pv_pickF rfl hk (v := .bool _) rfl) ?_
          refine xp_condF rfl (rfl) ?_
          refine xp_exit ?_
          refine ⟨(y, ls, a), trivial, rfl, rfl, (Ext.trans E12 E_k), fun h3 E3 => ⟨by omega, N3, KA⟩, ?_⟩
          repeat (first | exact off_refl _ _ | exact off_base _ _ _ | refine off_upd (by decide) ?_ | refine off_updL rfl ?_ | refine off_mix rfl ?_)
      · rintro ⟨y, ls, a⟩ T5 h_y E_y J_y
        refine goes_norm [_, _, _, _, _, _, _] rfl ?_
        obtain ⟨N1, N3, KA⟩ := J_y
        obtain ⟨pL, AL, nL, cL⟩ := a
        obtain rfl : nL = ls.length := by have := AccR.len KA; rw [flat_len (m := 4) (fun _ _ => rfl)] at this; dsimp only at this; omega
        dsimp only at *
        refine goes_pubO 5 rfl ?_
        intro gL GL PL
        refine goes_norm [_, _, _, _, _, _, _] rfl ?_
        have RL : Row gL 4 linkC AL ls := ⟨fun _ _ => rfl, AccR.rd KA PL⟩
        refine xp_seq ?_
        refine xp_seq ?_
        refine xp_region rfl ?_
        refine op_pure (pv_assign (v := .int .i64 _) rfl) ?_
        refine xp_block ?_
        refine xp_loopL [14, 126, 127, 128, 129, 130, 131, 132, 133, 134, 135, 136, 137, 138] 7 (α := Nat × Nat × List Int × Acc) (fun ⟨k, y, ws, a⟩ => [(14, .int .i64 k)]) (fun ⟨k, y, ws, a⟩ L => ((L.set 0 (some (b, .cells #[.int .u64 (y : Int)] 97 (0, 0)))).set 2 (some (b9, .cells #[.int .i64 r, .int .i64 v, .int .i64 g, .int .i64 t, .int .i64 o, .slice AB bs.length cB, .slice AQ qs.length cQ, .slice AL ls.length cL, .slice a.A a.n a.c] 28 (0, 0)))).set 6 (a.p)) (fun ⟨k, y, ws, a⟩ h_k => (k ≤ v.toNat ∧ ws.length = k) ∧ (∀ z ∈ ws, 0 ≤ z ∧ z ≤ 50) ∧ AccR 3 1 (ws.flatMap intC) a) (fun ⟨k, y, ws, a⟩ => v.toNat - k) ((0, y, [], acc0)) ⟨rfl, trivial⟩ (rfl) (⟨⟨by omega, rfl⟩, fun _ hz => absurd hz List.not_mem_nil, accR0⟩) ?_
        rintro ⟨k, y, ws, a⟩ T8 h_k E_k J_k
        refine goes_norm [_, _, _, _, _, _, _] rfl ?_
        obtain ⟨⟨M1, M2⟩, M3, KA⟩ := J_k
        refine xp_seq ?_
        refine xp_seq ?_
        refine xp_region rfl ?_
        refine op_pure (pv_move (v := .int .i64 _) rfl) ?_
        refine op_pure (pv_fieldAddr rfl rfl rfl rfl 1 rfl) ?_
        refine op_loadP 2 (v := .int .i64 _) rfl rfl rfl rfl ?_
        refine op_pure (pv_of (v := .bool _) rfl) ?_
        refine xp_cond rfl (fun hw => ?_) (fun hw => ?_)
        · skip
          have hkv : (k : Int) < v := of_decide_eq_true hw
          refine xp_skip ?_
          refine xp_seq ?_
          refine xp_block ?_
          refine xp_dw [true, false, false, false, false, false, false] rfl rfl rfl ?_
          refine dw_pure (i := 0) rfl (by decide +kernel) (pv_fieldAddr rfl rfl rfl rfl 8 rfl) ?_
          refine dw_load (i := 1) rfl (by decide +kernel) ?_
          refine op_loadP 2 (v := .slice _ _ _) rfl rfl rfl rfl ?_
          refine dw_pure (i := 2) rfl (by decide +kernel) (pv_move (v := .pointer (some ⟨b, 0, none⟩)) rfl) ?_
          refine dw_eff (i := 3) rfl (by decide +kernel) ?_
          refine op_fnMM [] [_] [_, _, _, _, _, _] (vs := [.pointer _, .int .i64 _]) rfl rfl rfl ((Upto_ok b y 9 (by omega) h_k)) ?_
          rintro _ h18 _ E18 ⟨y2, z, rfl, rfl, z1, z2⟩
          refine ⟨ext_wlm E18 _, ?_⟩
          refine dw_norm [_, _, _, _, _, _, _] rfl ?_
          refine dw_eff (i := 4) rfl (by decide +kernel) ?_
          refine op_buildSlice (zc := [_]) (vs := [(0, .int .i64 _)]) (cs := [_]) rfl rfl rfl rfl rfl rfl rfl fun b136 hb136 => ?_
          refine ⟨ext_newM hb136 _, ?_⟩
          refine dw_norm [_, _, _, _, _, _, _, _] rfl ?_
          refine dw_last (i := 5) rfl (by decide +kernel) (by decide +kernel) ?_
          refine op_appendR 6 KA rfl rfl rfl (fun V => rdP V (i := 7) rfl) rfl rfl rfl rfl rfl rfl rfl rfl rfl (by omega) rfl (by rw [flat_len (m := 1) (fun _ _ => rfl)]; simp; omega) fun a2 h9a E9a ha2 => ?_
          refine dw_norm [_, _, _, _, _, _, _, _] rfl ?_
          refine dw_pure (i := 6) rfl (by decide +kernel) (pv_fieldAddr rfl rfl rfl rfl 8 rfl) ?_
          refine dw_last (i := 7) rfl (by decide +kernel) (by decide +kernel) ?_
          refine op_storeP 2 (v := .slice _ _ _) (vs := [_]) (c' := [_, _, _, _, _, _, _, _, _]) rfl rfl rfl rfl rfl rfl rfl rfl rfl ?_
          refine dw_norm [_, _, _, _, _, _, _, _] rfl ?_
          refine dw_end rfl ?_
          refine xp_region rfl ?_
          refine op_pure (pv_move (v := .int .i64 _) rfl) ?_
          refine op_pure (pv_arith rfl (by omega)) ?_
          refine op_pure (pv_assign (v := .int .i64 _) rfl) ?_
          refine ⟨(k + 1, y2, ws ++ [z], a2), ⟨rfl, trivial⟩, rfl, rfl, (Ext.trans (Ext.trans E_k E18) E9a), fun h3 E3 => ⟨⟨by omega, by simp; omega⟩, mem_one M3 ⟨z1, by omega⟩, by rw [List.flatMap_append]; exact ha2⟩, by first | omega | (dsimp only; omega), ?_⟩
          repeat (first | exact off_base _ _ _ | refine off_upd (by decide) ?_ | refine off_updL rfl ?_ | refine off_mix rfl ?_)
        · skip
          have hkv : (k : Int) = v := by have := of_decide_eq_false hw; omega
          obtain ⟨pW, AW, nW, cW⟩ := a
          obtain rfl : nW = ws.length := by have := AccR.len KA; rw [flat_len (m := 1) (fun _ _ => rfl)] at this; dsimp only at this; omega
          dsimp only at *
          refine goes_pubO 6 rfl ?_
          intro gW GW PW
          refine goes_norm [_, _, _, _, _, _, _] rfl ?_
          have RW : Row gW 1 intC AW ws := ⟨fun _ _ => rfl, AccR.rd KA PW⟩
          refine xp_exit ?_
          refine xp_seq ?_
          refine xp_region rfl ?_
          refine op_loadPA 2 (vs := [.int .i64 _, .int .i64 _, .int .i64 _, .int .i64 _, .int .i64 _, .slice _ _ _, .slice _ _ _, .slice _ _ _, .slice _ _ _]) rfl rfl rfl rfl rfl ?_
          refine op_storeP 1 (v := .agg #[.int .i64 _, .int .i64 _, .int .i64 _, .int .i64 _, .int .i64 _, .slice _ _ _, .slice _ _ _, .slice _ _ _, .slice _ _ _]) (vs := [_, _, _, _, _, _, _, _, _]) (c' := [_, _, _, _, _, _, _, _, _]) rfl rfl rfl rfl rfl rfl rfl rfl rfl ?_
          refine wp_norm [_, _, _, _, _, _, _] rfl ?_
          refine xp_ret ?_
          refine res_list (vs := [_]) Try.results18 ⟨resV_agg 1 rfl rfl rfl rfl rfl (vs := [.int .i64 _, .int .i64 _, .int .i64 _, .int .i64 _, .int .i64 _, .slice _ _ _, .slice _ _ _, .slice _ _ _, .slice _ _ _]) rfl, trivial⟩ fun V => ?_
          obtain ⟨h9, E9, e9, V9⟩ := wl_drop [_, _, _, _, _, _] [_] V
          have RB9 := (RB.ext (Ext.trans (Ext.trans (Ext.trans (Ext.trans (Ext.trans (Ext.trans E8 E_j) GP) E_y) GL) E_k) GW)).ext E9
          refine ⟨h9, _, e9, V9, Ext.trans (Ext.trans (Ext.trans (Ext.trans (Ext.trans (Ext.trans (Ext.trans (Ext.trans (Ext.trans (Ext.trans (Ext.trans (Ext.trans (Ext.trans (Ext.trans (Ext.trans E1 E2) E3) E4) E5) E6) E_i) GB) E8) E_j) GP) E_y) GL) E_k) GW) E9, y, ⟨r, v, g, t, o, bs, qs, ls, ws⟩, rfl, ⟨.slice AB bs.length cB, .slice AQ qs.length cQ, .slice AL ls.length cL, .slice AW ws.length cW, rfl, ⟨AB, cB, rfl, RB9⟩, ⟨AQ, cQ, rfl, (RP.ext (Ext.trans (Ext.trans (Ext.trans E_y GL) E_k) GW)).ext E9⟩, ⟨AL, cL, rfl, (RL.ext (Ext.trans E_k GW)).ext E9⟩, ⟨AW, cW, rfl, RW.ext E9⟩⟩, ?_⟩
          exact ⟨⟨⟨r1, by show r ≤ 6; omega⟩, ⟨v1, by show v ≤ 6; omega⟩, ⟨g1, by show g ≤ 2; omega⟩, ⟨by show 1 ≤ t; omega, t2⟩, ⟨o1, by show o ≤ t; omega⟩, by show bs.length ≤ 4; omega, K3, by show qs.length ≤ 8; omega, L3, by show ls.length ≤ 4; omega, N3, by show (ws.length : Int) = v; omega, M3⟩, by show r ≤ size; omega, by show v ≤ size; omega, by show bs.length ≤ 3; omega, by show (qs.length : Int) ≤ pins; omega, N1⟩
end
end Go.Proofs.Ythphpbdmbmiaiaa
/- Walks: hands that are made of numbers, copies. Conditions: as each theorem states. -/
namespace Go.Proofs.Ythphpbdmbmiaiaa
open Go Go.HL Go.Proofs Go.Wx Go.Rd
section
variable [Lvl]
set_option maxRecDepth 100000
theorem set_of {l : List Int} {n : Nat} {k : Int} (e : k = n) (h : ∀ z ∈ l, 0 ≤ z ∧ z < n) (p : l.Pairwise (· < ·)) : SetOK l k := by
  subst e
  exact ⟨h, p⟩
theorem Ints_okM (l : List Int) (A : Option Addr) (c : Nat) (h : AH) (R : Row h 1 intC A l) (hl : l.length < 2 ^ 20) :
    FnM Try.prog (.func (.func 56) #[] ([] : List Value).toArray) [.slice A l.length c] h [] (fun v h' M' => ∃ a : Acc, M' = [a.p] ∧ v = .slice a.A a.n a.c ∧ AccR 3 1 (l.flatMap intC) a) := by
  refine fnM_body rfl rfl Try.func56 rfl Try.ntmps56 rfl ?_
  refine xp_seq ?_
  refine xp_region rfl ?_
  refine op_pure (pv_assign (v := .slice _ _ _) rfl) ?_
  refine xp_seq ?_
  refine xp_region rfl ?_
  refine op_buildSlice (zc := [_]) (vs := []) (cs := []) rfl rfl rfl rfl rfl rfl rfl fun b3 hb3 => ?_
  refine wp_norm [_] rfl ?_
  refine op_pure (pv_move (v := .slice _ _ _) rfl) ?_
  refine op_appendR 0 accR_new rfl rfl rfl (fun V => R.2.ext (Ext.trans (Ext.refl _) (ext_wl V))) (flat_len R.1) (flat_plain intP2 l) rfl rfl rfl rfl rfl rfl rfl (by omega) rfl (by rw [flat_len R.1, List.length_nil]; omega) fun a0 h1a E1a ha0 => ?_
  refine wp_norm [_] rfl ?_
  refine op_pure (pv_assign (v := .slice _ _ _) rfl) ?_
  refine xp_ret ?_
  refine res_list (vs := [_]) Try.results56 ⟨resV_tmp rfl rfl, trivial⟩ fun V => ?_
  exact ⟨_, [_], rfl, V, E1a, a0, rfl, rfl, ha0⟩
/-- A machine's value whose lists have been copied. -/
abbrev machA (a1 a2 a3 a4 : Acc) (m : MachP) : Value := .agg #[.int .i64 m.rods, .int .i64 m.levers, .int .i64 m.regs, .int .i64 m.travel, .int .i64 m.opn, .slice a1.A a1.n a1.c, .slice a2.A a2.n a2.c, .slice a3.A a3.n a3.c, .slice a4.A a4.n a4.c]
theorem CopyMachine_okM (m : MachP) (AB AQ AL AW : Option Addr) (cB cQ cL cW : Nat) (h : AH) (R : MachR h AB AQ AL AW m) (h0 : m.buttons.length < 2 ^ 20) (h1 : m.pins.length < 2 ^ 20) (h2 : m.links.length < 2 ^ 20) (h3 : m.weights.length < 2 ^ 20) :
    FnM Try.prog (.func (.func 20) #[] ([] : List Value).toArray) [machV AB AQ AL AW cB cQ cL cW m] h [] (fun v h' M' => ∃ a1 a4 a2 a3 : Acc, M' = [a1.p, a4.p, a2.p, a3.p] ∧ v = machA a1 a2 a3 a4 m
      ∧ AccR 3 1 (m.buttons.flatMap intC) a1 ∧ AccR 36 3 (m.pins.flatMap pinC) a2 ∧ AccR 39 4 (m.links.flatMap linkC) a3 ∧ AccR 3 1 (m.weights.flatMap intC) a4) := by
  refine fnM_body rfl rfl Try.func20 rfl Try.ntmps20 rfl ?_
  refine xp_seq ?_
  refine xp_region rfl ?_
  refine op_box (v := .agg #[.int .i64 _, .int .i64 _, .int .i64 _, .int .i64 _, .int .i64 _, .slice _ _ _, .slice _ _ _, .slice _ _ _, .slice _ _ _]) (cs := [_, _, _, _, _, _, _, _, _]) rfl rfl fun b1 hb1 => ?_
  refine wp_norm [_] rfl ?_
  refine op_alloc (cs := [_, _, _, _, _, _, _, _, _]) rfl rfl fun b2 hb2 => ?_
  refine wp_norm [_, _] rfl ?_
  refine xp_seq ?_
  refine xp_dw [] rfl rfl rfl ?_
  refine dw_pure (i := 0) rfl (by decide +kernel) (pv_fieldAddr rfl rfl rfl rfl 5 rfl) ?_
  refine dw_load (i := 1) rfl (by decide +kernel) ?_
  refine op_loadP 0 (v := .slice _ _ _) rfl rfl rfl rfl ?_
  refine dw_pure (i := 3) rfl (by decide +kernel) (pv_fieldAddr rfl rfl rfl rfl 8 rfl) ?_
  refine dw_load (i := 4) rfl (by decide +kernel) ?_
  refine op_loadP 0 (v := .slice _ _ _) rfl rfl rfl rfl ?_
  refine dw_eff (i := 2) rfl (by decide +kernel) ?_
  refine op_fnV rfl rfl (Ints_okM m.buttons AB cB h (R.b.ext (Ext.refl _)) h0) ?_
  rintro _ g0 _ Vmn G0 ⟨a1, rfl, rfl, ha1⟩
  refine ⟨ext_out Vmn G0, ?_⟩
  refine dw_norm [_, _, _] rfl ?_
  refine dw_pure (i := 6) rfl (by decide +kernel) (pv_fieldAddr rfl rfl rfl rfl 5 rfl) ?_
  refine dw_last (i := 5) rfl (by decide +kernel) (by decide +kernel) ?_
  refine op_fnMM [_, _, _] [] [] rfl rfl rfl (Ints_okM m.weights AW cW g0 (R.w.ext G0) h3) ?_
  rintro _ g1 _ G1 ⟨a4, rfl, rfl, ha4⟩
  refine dw_norm [_, _, _, _] rfl ?_
  refine dw_last (i := 7) rfl (by decide +kernel) (by decide +kernel) ?_
  refine op_storeP 0 (v := .slice _ _ _) (vs := [_]) (c' := [_, _, _, _, _, _, _, _, _]) rfl rfl rfl rfl rfl rfl rfl rfl rfl ?_
  refine dw_norm [_, _, _, _] rfl ?_
  refine dw_pure (i := 8) rfl (by decide +kernel) (pv_fieldAddr rfl rfl rfl rfl 8 rfl) ?_
  refine dw_last (i := 9) rfl (by decide +kernel) (by decide +kernel) ?_
  refine op_storeP 0 (v := .slice _ _ _) (vs := [_]) (c' := [_, _, _, _, _, _, _, _, _]) rfl rfl rfl rfl rfl rfl rfl rfl rfl ?_
  refine dw_norm [_, _, _, _] rfl ?_
  refine dw_end rfl ?_
  refine xp_seq ?_
  refine xp_dw [false, false, false, false, true, true] rfl rfl rfl ?_
  refine dw_pure (i := 1) rfl (by decide +kernel) (pv_fieldAddr rfl rfl rfl rfl 6 rfl) ?_
  refine dw_load (i := 2) rfl (by decide +kernel) ?_
  refine op_loadP 0 (v := .slice _ _ _) rfl rfl rfl rfl ?_
  refine dw_pure (i := 5) rfl (by decide +kernel) (pv_fieldAddr rfl rfl rfl rfl 7 rfl) ?_
  refine dw_load (i := 6) rfl (by decide +kernel) ?_
  refine op_loadP 0 (v := .slice _ _ _) rfl rfl rfl rfl ?_
  refine dw_eff (i := 0) rfl (by decide +kernel) ?_
  refine op_buildSlice (zc := [_, _, _]) (vs := []) (cs := []) rfl rfl rfl rfl rfl rfl rfl fun b11 hb11 => ?_
  refine ⟨ext_newM hb11 _, ?_⟩
  refine dw_norm [_, _, _, _, _] rfl ?_
  refine dw_eff (i := 3) rfl (by decide +kernel) ?_
  refine op_appendR 4 accR_new rfl rfl rfl (fun V => R.q.2.ext (Ext.trans (Ext.trans G0 G1) (ext_wl V))) (flat_len R.q.1) (flat_plain pinP m.pins) rfl rfl rfl rfl rfl rfl rfl (by omega) rfl (by rw [flat_len R.q.1, List.length_nil]; omega) fun a2 h1a E1a ha2 => ?_
  refine ⟨ext_wlm E1a _, ?_⟩
  refine dw_norm [_, _, _, _, _] rfl ?_
  refine dw_pure (i := 8) rfl (by decide +kernel) (pv_fieldAddr rfl rfl rfl rfl 6 rfl) ?_
  refine dw_eff (i := 4) rfl (by decide +kernel) ?_
  refine op_buildSlice (zc := [_, _, _, _]) (vs := []) (cs := []) rfl rfl rfl rfl rfl rfl rfl fun b15 hb15 => ?_
  refine ⟨ext_newM hb15 _, ?_⟩
  refine dw_norm [_, _, _, _, _, _] rfl ?_
  refine dw_last (i := 7) rfl (by decide +kernel) (by decide +kernel) ?_
  refine op_appendR 5 accR_new rfl rfl rfl (fun V => R.l.2.ext (Ext.trans (Ext.trans (Ext.trans G0 G1) E1a) (ext_wl V))) (flat_len R.l.1) (flat_plain linkP m.links) rfl rfl rfl rfl rfl rfl rfl (by omega) rfl (by rw [flat_len R.l.1, List.length_nil]; omega) fun a3 h2a E2a ha3 => ?_
  refine dw_norm [_, _, _, _, _, _] rfl ?_
  refine dw_last (i := 9) rfl (by decide +kernel) (by decide +kernel) ?_
  refine op_storeP 0 (v := .slice _ _ _) (vs := [_]) (c' := [_, _, _, _, _, _, _, _, _]) rfl rfl rfl rfl rfl rfl rfl rfl rfl ?_
  refine dw_norm [_, _, _, _, _, _] rfl ?_
  refine dw_pure (i := 10) rfl (by decide +kernel) (pv_fieldAddr rfl rfl rfl rfl 7 rfl) ?_
  refine dw_last (i := 11) rfl (by decide +kernel) (by decide +kernel) ?_
  refine op_storeP 0 (v := .slice _ _ _) (vs := [_]) (c' := [_, _, _, _, _, _, _, _, _]) rfl rfl rfl rfl rfl rfl rfl rfl rfl ?_
  refine dw_norm [_, _, _, _, _, _] rfl ?_
  refine dw_end rfl ?_
  refine xp_seq ?_
  refine xp_region rfl ?_
  refine op_loadPA 0 (vs := [.int .i64 _, .int .i64 _, .int .i64 _, .int .i64 _, .int .i64 _, .slice _ _ _, .slice _ _ _, .slice _ _ _, .slice _ _ _]) rfl rfl rfl rfl rfl ?_
  refine op_storeP 1 (v := .agg #[.int .i64 _, .int .i64 _, .int .i64 _, .int .i64 _, .int .i64 _, .slice _ _ _, .slice _ _ _, .slice _ _ _, .slice _ _ _]) (vs := [_, _, _, _, _, _, _, _, _]) (c' := [_, _, _, _, _, _, _, _, _]) rfl rfl rfl rfl rfl rfl rfl rfl rfl ?_
  refine wp_norm [_, _, _, _, _, _] rfl ?_
  refine xp_ret ?_
  refine res_list (vs := [_]) Try.results20 ⟨resV_agg 1 rfl rfl rfl rfl rfl (vs := [.int .i64 _, .int .i64 _, .int .i64 _, .int .i64 _, .int .i64 _, .slice _ _ _, .slice _ _ _, .slice _ _ _, .slice _ _ _]) rfl, trivial⟩ fun V => ?_
  obtain ⟨h9, E9, e9, V9⟩ := wl_shed [_, _] [_, _, _, _] V
  exact ⟨h9, _, e9, V9, Ext.trans (Ext.trans (Ext.trans (Ext.trans G0 G1) E1a) E2a) E9, a1, a4, a2, a3, rfl, rfl, ha1, ha2, ha3, ha4⟩
end
end Go.Proofs.Ythphpbdmbmiaiaa
/- The own logic, part U: from a walk to the row of a law. Conditions: none. -/
namespace Go.HL
open Go Go.Wx Go.RowKit
/-- What is asked at the end of a law. -/
def lawK (t : Nat) (h0 : AH) : Post
  | .normal, S, D, L, h => D = [] ∧ (Valid h L → Ext h0 (wl h L)) ∧ S t = .bool true
  | .ret, S, D, L, h => D = [] ∧ (Valid h L → Ext h0 (wl h L)) ∧ S t = .bool true
  | _, _, _, _, _ => False
theorem below_of {w w' : World} (se : SameEnv w w') (e : Ext (absH w.heap) (absH w'.heap)) : Below w.heap.size w w' := by
  have hb : ∀ k, k < w.heap.size → w'.heap[k]? = w.heap[k]? := by
    intro k hk
    have h1 : absH w.heap k = some w.heap[k] := Array.getElem?_eq_getElem hk
    have h2 : w'.heap[k]? = some w.heap[k] := e k _ h1
    rw [h2]
    exact (Array.getElem?_eq_getElem hk).symm
  refine ⟨se.os, se.tape, se.output, ?_, hb⟩
  rcases Nat.lt_or_ge w'.heap.size w.heap.size with h1 | h1
  · have h2 := hb w'.heap.size h1
    rw [Array.getElem?_eq_getElem h1] at h2
    simp at h2
  · exact h1
variable [Lvl]
/-- A slice of ints that came in. -/
theorem row_of {w : World} {a : Option Addr} {len cap : Nat} {zs : List Int} (h : (a = none ∧ len = 0 ∧ cap = 0 ∧ zs = []) ∨
    ∃ x, a = some x ∧ len ≤ cap ∧ cap ≤ maxLen ∧ zs.length = cap ∧ (∀ i, i < zs.length → w.cell? (x.add i) = some (.int .i64 (zs.getD i 0))) ∧ ∀ n ∈ zs, (Lit.int .i64 n).wf = true) :
    ∃ l : List Int, l.length = len ∧ Row (absH w.heap) 1 intC a l ∧ len ≤ maxLen ∧ ∀ n ∈ l, (Lit.int .i64 n).wf = true := by
  rcases h with ⟨rfl, rfl, rfl, rfl⟩ | ⟨x, rfl, hl, hm, hz, hc, hw⟩
  · exact ⟨[], rfl, ⟨fun _ h => (by cases h), Rd.nil _ _⟩, Nat.zero_le _, fun _ h => (by cases h)⟩
  · refine ⟨zs.take len, by rw [List.length_take]; omega, ⟨fun _ _ => rfl, ?_⟩, by omega, fun n hn => hw n (List.mem_of_mem_take hn)⟩
    have hflat : ∀ l : List Int, l.flatMap intC = l.map (Value.int .i64) := by
      intro l
      induction l with
      | nil => rfl
      | cons a l ih => simp [List.flatMap_cons, ih, intC]
    rw [hflat]
    intro hne
    have hpos : 0 < zs.length := by
      rcases Nat.eq_zero_or_pos zs.length with h0 | h0
      · rw [List.eq_nil_of_length_eq_zero h0] at hne; simp at hne
      · exact h0
    obtain ⟨g, off, sp⟩ := x
    have h0 := hc 0 hpos
    have hsp : sp = none := by
      cases sp with
      | none => rfl
      | some s =>
        exfalso
        have : w.cell? ((⟨g, off, some s⟩ : Addr).add 0) = none := by
          simp only [Addr.add]
          rw [cell_abs]
          unfold cellA
          split <;> simp
        rw [this] at h0
        cases h0
    subst hsp
    refine ⟨g, off, rfl, fun j u hu => ?_⟩
    have hj : j < zs.length := by
      have := (List.getElem?_eq_some_iff.1 hu).1
      rw [List.length_map, List.length_take] at this
      omega
    have h1 := hc j hj
    rw [cell_abs, add_none] at h1
    rw [h1]
    rw [List.getElem?_map, List.getElem?_take] at hu
    split at hu
    · rw [List.getElem?_eq_getElem hj] at hu
      simp only [Option.map_some, Option.some.injEq] at hu
      rw [← hu]
      simp [List.getD_eq_getElem?_getD, hj]
    · cases hu
end Go.HL
/- The own logic, part Uc: from a walk to the run of a law that starts goroutines. Conditions: none. -/
namespace Go.HL
open Go Go.Wx Go.RowKit Go.Conc Go.ConcN
/-- The run of a law: it ends, true, and leaves what was there. -/
def RunsTrue (P : Program) (f : FuncId) (args : Array Value) (w : World) : Prop :=
  ∃ M last o w' t', runNT P (M + 1) (solo (G (Frame.enter P f args .normal) []) w) #[] = (.ended o w', t') ∧ runN P M (solo (G (Frame.enter P f args .normal) []) w) = .next last ∧ step P last = .ended o w' ∧
    Go.Conc.Good P (fun v W' => v = .bool true ∧ Below w.heap.size w W') last o w' t'
theorem runs_body {P : Program} {f : FuncId} {fn : Func} {c : Code} {args : Array Value} {n t : Nat} {w : World} (hf : P.funcs[f]? = some fn) (hb : fn.body = some c) (hn : fn.ntmps = n) (ha : Nat.ble args.size n = true) (hr : fn.results = #[.tmp t]) (ht : Nat.blt t n = true) (hi : P.inits.idxOf? f = none)
    (x : ∀ h, h = absH w.heap → @xp ⟨true, none, none⟩ P n none c (lawK t h) (argS args) [] [] h) :
    RunsTrue P f args w := by
  letI : Lvl := ⟨true, none, none⟩
  have he : Frame.enter P f args .normal = mk { (default : Frame) with fn := f, kind := .normal, roundOf := none } n (argS args) [] [.code c] := by
    simp [Frame.enter, mk, hf, hb, hn, enter_tmps n args (Nat.le_of_ble_eq_true ha)]
  have hres : ∀ (S : Sl) (w' : World), S t = .bool true → results fn (arr n S) = .pure (.bool true) := by
    intro S w' hs
    unfold results
    rw [hr, List.mapM_toArray]
    have e1 : (arr n S).getD t undef = .bool true := by rw [arr_getD, if_pos (Nat.lt_of_lt_of_le (Nat.lt_succ_self t) (Nat.le_of_ble_eq_true ht)), hs]
    show Sem.pure ((arr n S).getD t undef) = _
    rw [e1]
  have x1 := x _ rfl (absH w.heap) (by have := Fits.nil (valid_nil (Fin.abs w.heap)); rw [wl_nil] at this; exact this) { (default : Frame) with fn := f, kind := .normal, roundOf := none } rfl [] []
  have x2 : Rch P (fun fr cs' H => cs' = [] ∧ fr.mode = .returning ∧ fr.defers = [] ∧ fr.kind = .normal ∧ fr.fn = f ∧ (∃ S, fr.tmps = arr n S ∧ S t = .bool true) ∧ Ext (absH w.heap) H) (mk { (default : Frame) with fn := f, kind := .normal, roundOf := none } n (argS args) [] [.code c]) [] (absH w.heap) := by
    refine x1.bind ?_
    rintro fr cs' H ⟨rfl, e, S', D', L', h', V', kk, a⟩
    cases e with
    | normal =>
      obtain ⟨rfl, ex, hs⟩ := kk
      have a' : fr = mk { (default : Frame) with fn := f, kind := .normal, roundOf := none } n S' [] [] := a
      subst a'
      have hH : H = wl h' L' := by rw [V'.eq]; exact hun_nil _
      subst hH
      refine .ctl (fr' := { mk { (default : Frame) with fn := f, kind := .normal, roundOf := none } n S' [] [] with mode := .returning }) (cs' := []) (fun w => by simp [stepG, stepG.exec, mk]) (.done ⟨rfl, rfl, rfl, rfl, rfl, ⟨S', rfl, hs⟩, ex V'.valid⟩)
    | ret =>
      obtain ⟨rfl, ex, hs⟩ := kk
      obtain ⟨todo, rfl⟩ := a.1 rfl
      have hH : H = wl h' L' := by rw [V'.eq]; exact hun_nil _
      subst hH
      exact .done ⟨rfl, rfl, rfl, rfl, rfl, ⟨S', rfl, hs⟩, ex V'.valid⟩
    | _ => exact kk.elim
  unfold RunsTrue
  rw [he]
  refine x2.ends rfl rfl ?_
  rintro fr cs h w' ⟨rfl, hm, hd, hk, hfn, ⟨S, htm, hs⟩, ex⟩ se rfl
  have hr1 := hres S w' hs
  have hru : (results fn fr.tmps).runT P w' #[] = (.ok (.bool true) w', #[]) := by rw [htm, hr1]; rfl
  have hf' : P.funcs[fr.fn]? = some fn := by rw [hfn]; exact hf
  have hi' : P.inits.idxOf? fr.fn = none := by rw [hfn]; exact hi
  have h1 : stepG P true (G fr []) w' = unwind P true fr [] none w' := by
    simp [stepG, stepG.exec, hm]
  have h2 : unwind P true fr [] none w' = GStep.after (seen P fr.fn #[]) (.ended (.done (.bool true)) w') := by
    unfold unwind
    rw [hd]
    simp only [hm, hf', hru]
    unfold doReturn
    simp only [hk, hi']
    rfl
  refine ⟨rfl, .bool true, seen P fr.fn #[], ?_, fun e he => ?_, rfl, below_of se ex⟩
  · rw [h1, h2]
    simp [GStep.after]
  · simp [seen] at he
end Go.HL
/- Plain: machines that pass the check; what levers do. Conditions: none. -/
namespace Go.Rd
open Go Go.HL Go.Wx
variable [Lvl]
theorem chk_of {m : MachP} (M : MOK m) : chkM m = 0 := by
  unfold chkM
  have h := M.rods; have h2 := M.levers; have h3 := M.regs; have h4 := M.travel; have h5 := M.opn
  rw [if_neg (by simp [inM]; omega), if_neg (by simp [inM]; omega), if_neg (by simp [inM]; omega), if_neg (by simp [inM]; omega), if_neg (by simp [inM]; omega)]
  have b1 : firstErr (checkButtonM m) m.buttons = 0 := firstErr_iff.2 fun b hb => by
    have := M.btn b hb
    unfold checkButtonM
    rw [if_neg (by simp [inM]; omega)]
  have b2 : firstErr (checkPinM m) m.pins = 0 := firstErr_iff.2 fun p hp => by
    obtain ⟨a, b, c⟩ := M.pin p hp
    unfold checkPinM
    rw [if_neg (by simp [inM]; omega), if_neg (by simp [inM]; omega), if_neg (by simp [inM]; omega)]
  have b3 : firstErr (checkLinkM m) m.links = 0 := firstErr_iff.2 fun l hl => by
    obtain ⟨a, b, c, d, e⟩ := M.link l hl
    unfold checkLinkM
    rw [if_neg (by simp [inM]; omega), if_neg (by simp [inM]; omega), if_neg c, if_neg (by simp [inM]; omega), if_neg (by simp [inM]; omega)]
  have b4 : firstErr checkWeightM m.weights = 0 := firstErr_iff.2 fun w hw => by
    have := M.wt w hw
    unfold checkWeightM
    rw [if_neg (by simp [inM]; omega)]
  rw [if_neg (by have := M.bl; omega), b1, if_neg (by decide), if_neg (by have := M.pl; omega), b2, if_neg (by decide), if_neg (by have := M.ll; omega), b3, if_neg (by decide), if_neg (by have := M.wl; omega), b4]
theorem hand_of {m : MachP} {a : HandP} (M : MOK m) (H : HOK m a) : checkHandM m a = 0 := by
  unfold checkHandM
  rw [chk_of M, if_neg (by decide), checkSet_iff.2 H.b, if_neg (by decide), checkSet_iff.2 H.o]
theorem MOK.wlen {m : MachP} (M : MOK m) : m.weights.length < 2 ^ 40 := by have := M.wl; have := M.levers; omega
theorem HOK.olen {m : MachP} {a : HandP} (M : MOK m) (H : HOK m a) : a.on.length < 2 ^ 40 := by
  have := M.regs
  have := set_len (below := m.regs.toNat) (by rw [Int.toNat_of_nonneg (by omega)]; exact H.o)
  omega
theorem lifted_at {m : MachP} {a : HandP} {depth : Int} {k : Nat} (hk : k < (liftedM m (turnedM m a depth)).length) : (liftedM m (turnedM m a depth))[k] = liftF m a depth k := by
  unfold liftF
  rw [Int.toNat_natCast, List.getD_eq_getElem?_getD, List.getElem?_eq_getElem hk]
  rfl
theorem MOK.pins {m : MachP} (M : MOK m) : ∀ p ∈ m.pins, 0 ≤ p.lever ∧ 0 ≤ p.rod := fun p hp => ⟨(M.pin p hp).2.1.1, (M.pin p hp).1.1⟩
theorem MOK.pinl {m : MachP} (M : MOK m) : ∀ p ∈ m.pins, 0 ≤ p.lever := fun p hp => (M.pin p hp).2.1.1
theorem MOK.pin3 {m : MachP} (M : MOK m) : ∀ p ∈ m.pins, 0 ≤ p.rod ∧ 0 ≤ p.lever ∧ 0 ≤ p.lag := fun p hp => ⟨(M.pin p hp).1.1, (M.pin p hp).2.1.1, (M.pin p hp).2.2.1⟩
theorem MOK.cap {m : MachP} (M : MOK m) {ps : List PinP} {ls : List LinkP} (hp : ps.length ≤ 8) (hl : ls.length ≤ 4)
    (h1 : ∀ p ∈ ps, (0 ≤ p.rod ∧ p.rod < m.rods) ∧ (0 ≤ p.lever ∧ p.lever < m.levers) ∧ (0 ≤ p.lag ∧ p.lag ≤ m.travel))
    (h2 : ∀ l ∈ ls, (0 ≤ l.frm ∧ l.frm < m.rods) ∧ (0 ≤ l.to ∧ l.to < m.rods) ∧ l.frm ≠ l.to ∧ (-1 ≤ l.reg ∧ l.reg < m.regs) ∧ (1 ≤ l.lag ∧ l.lag ≤ m.travel)) : MOK { m with pins := ps, links := ls } :=
  ⟨M.rods, M.levers, M.regs, M.travel, M.opn, M.bl, M.btn, hp, h1, hl, h2, M.wl, M.wt⟩
end Go.Rd
/- The own logic, part GS: a part of an array as a slice. Conditions: none. -/
namespace Go.HL
open Go
variable [Lvl]
section
variable {P : Program} {n : Nat} {d : Option Tmp} {ty : TypeId} {ps : String} {af : Array Edge} {S : Sl}
end
end Go.HL
/- Walks of package rod: how far rods turn. Conditions: as each theorem states. -/
namespace Go.Proofs.Ythphpbdmbmiaiaa
open Go Go.HL Go.Proofs Go.Wx Go.Rd
section
variable [Lvl]
set_option maxRecDepth 100000
end
end Go.Proofs.Ythphpbdmbmiaiaa
/- Walks of package rod: how deep a button has to go. Conditions: as each theorem states. -/
namespace Go.Proofs.Ythphpbdmbmiaiaa
open Go Go.HL Go.Proofs Go.Wx Go.Rd
section
variable [Lvl]
set_option maxRecDepth 100000
/-- The first number from k on, of n, of which p is true. -/
def fnd (p : Nat → Bool) : Nat → Nat → Option Nat
  | 0, _ => none
  | n + 1, k => if p k then some k else fnd p n (k + 1)
theorem fnd_some {p : Nat → Bool} : ∀ {n k d : Nat}, k ≤ d → d < k + n → p d = true → (∀ i, k ≤ i → i < d → p i = false) → fnd p n k = some d
  | 0, k, d, h1, h2, _, _ => by omega
  | n + 1, k, d, h1, h2, hp, hb => by
    unfold fnd
    by_cases hk : k = d
    · subst hk; rw [if_pos hp]
    · rw [if_neg (by rw [hb k (Nat.le_refl _) (by omega)]; decide)]
      exact fnd_some (by omega) (by omega) hp (fun i h3 h4 => hb i (by omega) h4)
theorem fnd_none {p : Nat → Bool} : ∀ {n k : Nat}, (∀ i, k ≤ i → i < k + n → p i = false) → fnd p n k = none
  | 0, _, _ => rfl
  | n + 1, k, h => by
    unfold fnd
    rw [if_neg (by rw [h k (Nat.le_refl _) (by omega)]; decide)]
    exact fnd_none (fun i h1 h2 => h i (by omega) (by omega))
def depthP (m : MachP) (on : List Int) (b v : Int) (d : Nat) : Bool := (soundsM m ⟨[b], on⟩ (d : Int)).testBit v.toNat
def depthO : Option Nat → Int × Int
  | some d => ((d : Int), 0)
  | none => (0, 11)
def depthR (m : MachP) (on : List Int) (b v : Int) : Int × Int :=
  if checkHandM m ⟨[], on⟩ ≠ 0 then (0, checkHandM m ⟨[], on⟩)
  else if !inM b 0 (m.buttons.length - 1) then (0, 3) else if !inM v 0 (m.levers - 1) then (0, 3)
  else depthO (fnd (depthP m on b v) (m.travel.toNat + 1) 0)
set_option maxHeartbeats 4000000 in
theorem Depth_ok (hph : Lvl.ph = true) (m : MachP) (on : List Int) (b v : Int) (AB AQ AL AW OA : Option Addr) (cB cQ cL cW cO : Nat) (h : AH) (RM : MachR h AB AQ AL AW m) (RO : Row h 1 intC OA on) (h0 : m.weights.length < 2 ^ 40) (h2 : on.length < 2 ^ 40) :
    FnT Try.prog 44 #[machV AB AQ AL AW cB cQ cL cW m, .slice OA on.length cO, .int .i64 b, .int .i64 v] h (fun w _ => w = .tuple #[.int .i64 (depthR m on b v).1, .int .i64 (depthR m on b v).2]) := by
  refine call_body Try.func44 rfl Try.ntmps44 rfl ?_
  refine xp_seq ?_
  refine xp_region rfl ?_
  refine op_box (v := .agg #[.int .i64 _, .int .i64 _, .int .i64 _, .int .i64 _, .int .i64 _, .slice _ _ _, .slice _ _ _, .slice _ _ _, .slice _ _ _]) (cs := [_, _, _, _, _, _, _, _, _]) rfl rfl fun b4 hb4 => ?_
  refine wp_norm [_] rfl ?_
  refine op_pure (pv_assign (v := .int .i64 _) rfl) ?_
  refine op_pure (pv_assign (v := .int .i64 _) rfl) ?_
  refine xp_seq ?_
  refine xp_seq ?_
  refine xp_region rfl ?_
  refine op_loadPA 0 (vs := [.int .i64 _, .int .i64 _, .int .i64 _, .int .i64 _, .int .i64 _, .slice _ _ _, .slice _ _ _, .slice _ _ _, .slice _ _ _]) rfl rfl rfl rfl rfl ?_
  refine op_pure (pv_move (v := .slice _ _ _) rfl) ?_
  refine op_pure (pv_build (zc := [_, _]) (vs := [(1, .slice _ _ _)]) (cs := [_, _]) rfl rfl rfl rfl rfl rfl) ?_
  refine op_fn (caps := []) (vs := [.agg #[.int .i64 _, .int .i64 _, .int .i64 _, .int .i64 _, .int .i64 _, .slice _ _ _, .slice _ _ _, .slice _ _ _, .slice _ _ _], .agg #[.slice _ _ _, .slice _ _ _]]) rfl rfl rfl (checkHand_ok m ⟨[], on⟩ AB AQ AL AW none OA cB cQ cL cW 0 cO h (RM.ext (Ext.refl _)) ⟨row_nil _ _, RO.ext (Ext.refl _)⟩ h0 (by show 0 < 2 ^ 40; decide) h2) ?_
  rintro _ h3 E3 rfl
  refine op_pure (pv_assign (v := .int .i64 _) rfl) ?_
  refine xp_seq ?_
  refine xp_region rfl ?_
  refine op_pure (pv_move (v := .int .i64 _) rfl) ?_
  refine op_pure (pv_of (v := .bool _) rfl) ?_
  refine xp_cond rfl (fun hc => ?_) (fun hc => ?_)
  · skip
    have hc' : checkHandM m ⟨[], on⟩ ≠ 0 := by simpa using hc
    refine xp_seq ?_
    refine xp_region rfl ?_
    refine op_pure (pv_move (v := .int .i64 _) rfl) ?_
    refine op_pure (pv_assign (v := .int .i64 _) rfl) ?_
    refine op_pure (pv_assign (v := .int .i64 _) rfl) ?_
    refine xp_ret ?_
    refine res_list (vs := [_, _]) Try.results44 ⟨resV_tmp rfl rfl, resV_tmp rfl rfl, trivial⟩ fun V => ?_
    exact ⟨(Ext.trans E3 (ext_wl V)), by rw [depthR, if_pos hc']; rfl⟩
  · skip
    have hc' : checkHandM m ⟨[], on⟩ = 0 := by simpa using hc
    obtain ⟨M, H⟩ := checkHand_ok0 hc'
    have PF := pfit_of M
    have tr := M.travel
    have bl := M.bl
    have lv := M.levers
    have eR : depthR m on b v = if !inM b 0 (m.buttons.length - 1) then (0, 3) else if !inM v 0 (m.levers - 1) then (0, 3) else depthO (fnd (depthP m on b v) (m.travel.toNat + 1) 0) := by rw [depthR, if_neg (by simp [hc'])]
    refine xp_skip ?_
    refine xp_seq ?_
    refine xp_seq ?_
    refine xp_region rfl ?_
    refine op_pure (pv_move (v := .int .i64 _) rfl) ?_
    refine op_pure (pv_fieldAddr rfl rfl rfl rfl 5 rfl) ?_
    refine op_loadP 0 (v := .slice _ _ _) rfl rfl rfl rfl ?_
    refine op_pure (pv_len rfl rfl) ?_
    refine op_pure (pv_arith rfl (by omega)) ?_
    refine op_fn (caps := []) (vs := [.int .i64 _, .int .i64 _, .int .i64 _]) rfl rfl rfl (within_ok b 0 (m.buttons.length - 1) h3) ?_
    rintro _ h4 E4 rfl
    refine op_pure (pv_of (v := .bool _) rfl) ?_
    refine op_pure (pv_move (v := .bool _) rfl) ?_
    rcases Bool.eq_false_or_eq_true (inM b 0 (m.buttons.length - 1)) with e1 | e1
    · skip
      have e1' : (!inM b 0 (m.buttons.length - 1)) = false := by rw [e1]; rfl
      refine guard_yes rfl e1' ?_
      refine op_pure (pv_move (v := .int .i64 _) rfl) ?_
      refine guard_yes rfl e1' ?_
      refine op_pure (pv_fieldAddr rfl rfl rfl rfl 1 rfl) ?_
      refine guard_yes rfl e1' ?_
      refine op_loadP 0 (v := .int .i64 _) rfl rfl rfl rfl ?_
      refine guard_yes rfl e1' ?_
      refine op_pure (pv_arith rfl (by omega)) ?_
      refine guard_yes rfl e1' ?_
      refine op_fn (caps := []) (vs := [.int .i64 _, .int .i64 _, .int .i64 _]) rfl rfl rfl (within_ok v 0 (m.levers - 1) h4) ?_
      rintro _ h5 E5 rfl
      refine guard_yes rfl e1' ?_
      refine op_pure (pv_of (v := .bool _) rfl) ?_
      refine op_pure (pv_pickF rfl e1' (v := .bool _) rfl) ?_
      refine xp_cond rfl (fun e2 => ?_) (fun e2 => ?_)
      · skip
        refine xp_seq ?_
        refine xp_region rfl ?_
        refine op_pure (pv_assign (v := .int .i64 _) rfl) ?_
        refine op_pure (pv_assign (v := .int .i64 _) rfl) ?_
        refine xp_ret ?_
        refine res_list (vs := [_, _]) Try.results44 ⟨resV_tmp rfl rfl, resV_tmp rfl rfl, trivial⟩ fun V => ?_
        exact ⟨(Ext.trans (Ext.trans (Ext.trans E3 E4) E5) (ext_wl V)), by rw [eR, e1', e2]; rfl⟩
      · skip
        have e1'' := inM_iff.1 e1
        have e2' : inM v 0 (m.levers - 1) = true := by simpa using e2
        have e2'' := inM_iff.1 e2'
        obtain ⟨q, rfl⟩ : ∃ q : Nat, b = q := ⟨b.toNat, by omega⟩
        have hql : q < m.buttons.length := by omega
        have Hq := hand1_ok H hql
        have eR2 : depthR m on q v = depthO (fnd (depthP m on q v) (m.travel.toNat + 1) 0) := by rw [eR, e1', e2]; rfl
        refine xp_skip ?_
        refine xp_seq ?_
        refine xp_region rfl ?_
        refine op_loadPA 0 (vs := [.int .i64 _, .int .i64 _, .int .i64 _, .int .i64 _, .int .i64 _, .slice _ _ _, .slice _ _ _, .slice _ _ _, .slice _ _ _]) rfl rfl rfl rfl rfl ?_
        refine op_fn (caps := []) (vs := [.agg #[.int .i64 _, .int .i64 _, .int .i64 _, .int .i64 _, .int .i64 _, .slice _ _ _, .slice _ _ _, .slice _ _ _, .slice _ _ _]]) rfl rfl rfl (sounding_ok m AB AQ AL AW cB cQ cL cW h5 (RM.ext (Ext.trans (Ext.trans E3 E4) E5))) ?_
        rintro _ h6 E6 ⟨bs, AB1, AQ1, AL1, AW1, cB1, cQ1, cL1, cW1, rfl, CM, RM1⟩
        refine op_pure (pv_assign (v := _) rfl) ?_
        refine xp_seq ?_
        refine xp_seq ?_
        refine xp_region rfl ?_
        refine op_pure (pv_fieldAddr rfl rfl rfl rfl 3 rfl) ?_
        refine op_loadP 0 (v := .int .i64 _) rfl rfl rfl rfl ?_
        refine op_pure (pv_arith rfl (by omega)) ?_
        refine op_pure (pv_move (v := .int .i64 _) rfl) ?_
        refine xp_block ?_
        refine xp_loopB [8, 9, 12, 40, 41, 42, 43, 44, 45, 46, 47, 48, 49, 50, 51, 52, 53] 1 (α := Nat) (fun d => [(40, .int .i64 d)]) (fun d => _) (fun d h_d => d ≤ m.travel.toNat + 1 ∧ ∀ i, 0 ≤ i → i < d → depthP m on q v i = false) (fun d => m.travel.toNat + 1 - d) (0) ⟨rfl, trivial⟩ (rfl) (⟨Nat.zero_le _, fun i _ h => by omega⟩) ?_
        rintro d T1 h_d E_d J_d
        refine goes_norm [_] rfl ?_
        obtain ⟨K1, K2⟩ := J_d
        refine xp_seq ?_
        refine xp_region rfl ?_
        refine op_pure (pv_of (v := .bool _) rfl) ?_
        refine xp_seq ?_
        refine xp_cond rfl (fun hd => ?_) (fun hd => ?_)
        · skip
          have hdl : (d : Int) < m.travel + 1 := of_decide_eq_true hd
          refine xp_skip ?_
          refine xp_seq ?_
          refine xp_block ?_
          refine xp_seq ?_
          refine xp_region rfl ?_
          refine op_pure (pv_move (v := .int .i64 _) rfl) ?_
          refine op_pure (pv_assign (v := .int .i64 _) rfl) ?_
          refine xp_seq ?_
          refine xp_region rfl ?_
          refine op_pure (pv_move (v := _) rfl) ?_
          refine op_pure (pv_move (v := .int .i64 _) rfl) ?_
          refine op_buildSlice (zc := [_]) (vs := [(0, .int .i64 _)]) (cs := [_]) rfl rfl rfl rfl rfl rfl rfl fun b45 hb45 => ?_
          refine wp_norm [_, _] rfl ?_
          refine op_pure (pv_move (v := .slice _ _ _) rfl) ?_
          refine op_pure (pv_build (zc := [_, _]) (vs := [(0, .slice _ _ _), (1, .slice _ _ _)]) (cs := [_, _]) rfl rfl rfl rfl rfl rfl) ?_
          refine op_pure (pv_move (v := .int .i64 _) rfl) ?_
          refine wp_pub 1 rfl rfl ?_
          intro h7 E7 hb7
          refine wp_norm [_, _] rfl ?_
          refine op_fn  (vs := _) rfl rfl rfl (snd_ok hph m ⟨[(q : Int)], on⟩ (fit_of M Hq) PF d (by omega) (by omega) bs AB1 AQ1 AL1 AW1 (some ⟨b45, 0, none⟩) OA cB1 cQ1 cL1 cW1 1 cO h7 (CM.ext (Ext.trans E_d E7)) (RM1.ext (Ext.trans E_d E7)) ⟨row_one hb7, RO.ext (Ext.trans (Ext.trans (Ext.trans (Ext.trans (Ext.trans E3 E4) E5) E6) E_d) E7)⟩) ?_
          rintro _ h8 E8 rfl
          refine op_pure (pv_move (v := .int .i64 _) rfl) ?_
          refine op_fn (caps := []) (vs := [.int .i64 _, .int .i64 _]) rfl rfl rfl (has_ok (soundsM m ⟨[(q : Int)], on⟩ d) v v.toNat (by omega) (sounds_small PF _ _) (by omega) h8) ?_
          rintro _ h9 E9 rfl
          refine xp_cond rfl (fun hs => ?_) (fun hs => ?_)
          · skip
            have hf : fnd (depthP m on q v) (m.travel.toNat + 1) 0 = some d := fnd_some (by omega) (by omega) hs K2
            refine xp_seq ?_
            refine xp_region rfl ?_
            refine op_pure (pv_move (v := .int .i64 _) rfl) ?_
            refine op_pure (pv_assign (v := .int .i64 _) rfl) ?_
            refine op_pure (pv_assign (v := .int .i64 _) rfl) ?_
            refine xp_ret ?_
            refine res_list (vs := [_, _]) Try.results44 ⟨resV_tmp rfl rfl, resV_tmp rfl rfl, trivial⟩ fun V => ?_
            exact ⟨(Ext.trans (Ext.trans (Ext.trans (Ext.trans (Ext.trans (Ext.trans (Ext.trans (Ext.trans E3 E4) E5) E6) E_d) E7) E8) E9) (ext_wl V)), by rw [eR2, hf]; rfl⟩
          · skip
            refine xp_skip ?_
            refine xp_region rfl ?_
            refine op_pure (pv_arith rfl (by omega)) ?_
            refine op_pure (pv_move (v := .int .i64 _) rfl) ?_
            refine ⟨d + 1, ⟨rfl, trivial⟩, rfl, rfl, (Ext.trans (Ext.trans (Ext.trans E_d E7) E8) E9), fun h3 E3 => ⟨by omega, fun i _ hi => (Nat.lt_succ_iff_lt_or_eq.1 hi).elim (K2 i (Nat.zero_le _)) (fun h => by subst h; exact hs)⟩, by first | omega | (dsimp only; omega), ?_⟩
            repeat (first | exact off_base _ _ _ | refine off_upd (by decide) ?_ | refine off_updL rfl ?_ | refine off_mix rfl ?_)
        · skip
          have hf : fnd (depthP m on q v) (m.travel.toNat + 1) 0 = none := fnd_none (fun i h1 h2 => K2 i h1 (by have := of_decide_eq_false hd; omega))
          refine xp_exit ?_
          refine xp_seq ?_
          refine xp_region rfl ?_
          refine op_pure (pv_assign (v := .int .i64 _) rfl) ?_
          refine op_pure (pv_assign (v := .int .i64 _) rfl) ?_
          refine xp_ret ?_
          refine res_list (vs := [_, _]) Try.results44 ⟨resV_tmp rfl rfl, resV_tmp rfl rfl, trivial⟩ fun V => ?_
          exact ⟨(Ext.trans (Ext.trans (Ext.trans (Ext.trans (Ext.trans E3 E4) E5) E6) E_d) (ext_wl V)), by rw [eR2, hf]; rfl⟩
    · skip
      have e1' : (!inM b 0 (m.buttons.length - 1)) = true := by rw [e1]; rfl
      refine guard_no rfl e1' ?_
      refine guard_no rfl e1' ?_
      refine guard_no rfl e1' ?_
      refine guard_no rfl e1' ?_
      refine guard_no rfl e1' ?_
      refine guard_no rfl e1' ?_
      refine op_pure (pv_pickT rfl e1' (v := .bool _) rfl) ?_
      refine xp_condT rfl (rfl) ?_
      refine xp_seq ?_
      refine xp_region rfl ?_
      refine op_pure (pv_assign (v := .int .i64 _) rfl) ?_
      refine op_pure (pv_assign (v := .int .i64 _) rfl) ?_
      refine xp_ret ?_
      refine res_list (vs := [_, _]) Try.results44 ⟨resV_tmp rfl rfl, resV_tmp rfl rfl, trivial⟩ fun V => ?_
      exact ⟨(Ext.trans (Ext.trans E3 E4) (ext_wl V)), by rw [eR, e1']; rfl⟩
end
end Go.Proofs.Ythphpbdmbmiaiaa
/- Walks: how deep buttons go. Conditions: as each theorem states. -/
namespace Go.Proofs.Ythphpbdmbmiaiaa
open Go Go.HL Go.Proofs Go.Wx Go.Rd
section
variable [Lvl]
set_option maxRecDepth 100000
theorem sounds_bit {m : MachP} {a : HandP} {d : Int} {v : Nat} (hv : (v : Int) < m.levers) : (soundsM m a d).testBit v = decide (m.opn ≤ liftF m a d v) := by
  unfold soundsM liftF
  rw [maskOf_bit, decide_eq_true (by omega : v < m.levers.toNat), Bool.true_and, Int.toNat_natCast]
theorem depth_val {m : MachP} {on : List Int} {b v : Int} (M : MOK m) (H : HOK m ⟨[b], on⟩) (h0 : 0 ≤ v) (hv : v < m.levers) :
    depthR m on b v = if liftF m ⟨[b], on⟩ m.travel v < m.opn then (0, 11) else (m.travel - (liftF m ⟨[b], on⟩ m.travel v - m.opn), 0) := by
  have F := fit_of M H
  have tr := M.travel
  have op := M.opn
  obtain ⟨k, rfl⟩ : ∃ k : Nat, v = k := ⟨v.toNat, by omega⟩
  have le := lift_le F (by omega : 0 ≤ m.travel) M.pin3 h0 hv
  have bit : ∀ d : Nat, (d : Int) ≤ m.travel → depthP m on b k d = decide (m.opn ≤ liftF m ⟨[b], on⟩ m.travel k - (m.travel - d)) := fun d hd => by
    unfold depthP
    rw [Int.toNat_natCast, sounds_bit hv, lift_deep F (by omega) hd M.pin3 h0 hv, decide_eq_decide]
    omega
  have hb := H.b.mem b (by simp)
  have e0 : checkHandM m ⟨[], on⟩ = 0 := hand_of M ⟨⟨fun _ h => absurd h List.not_mem_nil, List.Pairwise.nil⟩, H.o⟩
  rw [depthR, if_neg (by simp [e0]), if_neg (by simp [inM]; omega), if_neg (by simp [inM]; omega)]
  by_cases h : liftF m ⟨[b], on⟩ m.travel k < m.opn
  · rw [if_pos h, fnd_none (fun i _ hi => by rw [bit i (by omega)]; exact decide_eq_false (by omega))]
    rfl
  · rw [if_neg h, fnd_some (d := (m.travel - (liftF m ⟨[b], on⟩ m.travel k - m.opn)).toNat) (by omega) (by omega) (by rw [bit _ (by omega)]; exact decide_eq_true (by omega)) (fun i _ hi => by rw [bit i (by omega)]; exact decide_eq_false (by omega))]
    show (((m.travel - (liftF m ⟨[b], on⟩ m.travel k - m.opn)).toNat : Int), (0 : Int)) = _
    rw [Int.toNat_of_nonneg (by omega)]
/-- With less to go. -/
theorem less_mok {m : MachP} (M : MOK m) {t : Int} (h1 : m.opn ≤ t) (h2 : t ≤ m.travel) (h3 : ∀ p ∈ m.pins, p.lag ≤ t) (h4 : ∀ l ∈ m.links, l.lag ≤ t) : MOK { m with travel := t } := by
  have op := M.opn
  have tr := M.travel
  exact ⟨M.rods, M.levers, M.regs, ⟨by show 1 ≤ t; omega, by show t ≤ 12; omega⟩, ⟨op.1, h1⟩, M.bl, M.btn, M.pl, fun p hp => ⟨(M.pin p hp).1, (M.pin p hp).2.1, (M.pin p hp).2.2.1, h3 p hp⟩, M.ll, fun l hl => ⟨(M.link l hl).1, (M.link l hl).2.1, (M.link l hl).2.2.1, (M.link l hl).2.2.2.1, (M.link l hl).2.2.2.2.1, h4 l hl⟩, M.wl, M.wt⟩
theorem less_lift (m : MachP) (a : HandP) (t : Int) : liftedM { m with travel := t } (turnedM { m with travel := t } a t) = liftedM m (turnedM m a t) := by
  rw [turned_same (m := m) (m' := { m with travel := t }) a t rfl rfl, lifted_same (m := m) (m' := { m with travel := t }) _ rfl rfl]
set_option maxHeartbeats 8000000 in
theorem deep_runs (w : World) (l : List Int) (hl : l.length < 2 ^ 63) (A : Option Addr) (c : Nat) (R : Row (absH w.heap) 1 intC A l) : RunsTrue Try.prog 7 #[.slice A l.length c] w := by
  letI : Lvl := ⟨true, none, none⟩
  refine runs_body Try.func7 rfl Try.ntmps7 rfl Try.results7 rfl (by kernel_rfl) fun h hh => ?_
  rw [← hh] at R
  refine xp_seq ?_
  refine xp_region rfl ?_
  refine op_pure (pv_assign (v := .bool _) rfl) ?_
  refine xp_seq ?_
  refine xp_region rfl ?_
  refine op_pure (pv_move (v := .slice _ _ _) rfl) ?_
  refine op_fnMM [] [] [] rfl rfl rfl ((NewPot_ok l hl A c h R)) ?_
  rintro _ h1 _ E1 ⟨b, x, rfl, rfl⟩
  refine wp_norm [_] rfl ?_
  refine op_pure (pv_assign (v := .pointer _) rfl) ?_
  refine xp_seq ?_
  refine xp_region rfl ?_
  refine op_pure (pv_move (v := .pointer _) rfl) ?_
  refine op_fnMM [] [_] [] (vs := _) rfl rfl rfl ((MachineOf_ok b x 5 8 4 (by omega) (by omega) (by omega) h1)) ?_
  rintro _ h2 _ E2 ⟨x2, m, rfl, VM, Md⟩
  refine wp_norm [_] rfl ?_
  obtain ⟨AB, AQ, AL, AW, cB, cQ, cL, cW, rfl, RM⟩ := VM.open
  have M := Md.ok
  have mbl := Md.bl
  have mpl := Md.pl
  have mll := Md.ll
  have mrd := M.rods
  have mlv := M.levers
  have mrg := M.regs
  have mtr := M.travel
  have mop := M.opn
  have mwl := M.wl
  refine op_alloc (cs := [_, _, _, _, _, _, _, _, _]) rfl rfl fun b4 hb4 => ?_
  refine wp_norm [_, _] rfl ?_
  refine op_storeP 1 (v := .agg #[.int .i64 _, .int .i64 _, .int .i64 _, .int .i64 _, .int .i64 _, .slice _ _ _, .slice _ _ _, .slice _ _ _, .slice _ _ _]) (vs := [_, _, _, _, _, _, _, _, _]) (c' := [_, _, _, _, _, _, _, _, _]) rfl rfl rfl rfl rfl rfl rfl rfl rfl ?_
  refine wp_norm [_, _] rfl ?_
  refine xp_seq ?_
  refine xp_seq ?_
  refine xp_region rfl ?_
  refine op_pure (pv_fieldAddr rfl rfl rfl rfl 5 rfl) ?_
  refine op_loadP 1 (v := .slice _ _ _) rfl rfl rfl rfl ?_
  refine op_pure (pv_len rfl rfl) ?_
  refine op_pure (pv_of (v := .bool _) rfl) ?_
  refine xp_cond rfl (fun hz => ?_) (fun hz => ?_)
  · skip
    refine xp_seq ?_
    refine xp_region rfl ?_
    refine op_fn (caps := []) (vs := []) rfl rfl rfl (rod_sounding rfl h2) ?_
    rintro _ h26 E26 rfl
    refine op_pure (pv_assign (v := .bool _) rfl) ?_
    refine xp_ret ?_
    exact ⟨rfl, fun V => (Ext.trans (Ext.trans (Ext.trans E1 E2) E26) (ext_wl V)), rfl⟩
  · skip
    have hbn : 0 < m.buttons.length := (Nat.eq_zero_or_pos _).elim (fun h => absurd hz (by simp [h])) id
    refine xp_skip ?_
    refine xp_seq ?_
    refine xp_dw [true, false] rfl rfl rfl ?_
    refine dw_pure (i := 0) rfl (by decide +kernel) (pv_move (v := .pointer _) rfl) ?_
    refine dw_pure (i := 1) rfl (by decide +kernel) (pv_fieldAddr rfl rfl rfl rfl 5 rfl) ?_
    refine dw_load (i := 2) rfl (by decide +kernel) ?_
    refine op_loadP 1 (v := .slice _ _ _) rfl rfl rfl rfl ?_
    refine dw_pure (i := 3) rfl (by decide +kernel) (pv_len rfl rfl) ?_
    refine dw_pure (i := 4) rfl (by decide +kernel) (pv_arith rfl (by omega)) ?_
    refine dw_pure (i := 6) rfl (by decide +kernel) (pv_move (v := .pointer _) rfl) ?_
    refine dw_pure (i := 7) rfl (by decide +kernel) (pv_fieldAddr rfl rfl rfl rfl 2 rfl) ?_
    refine dw_load (i := 8) rfl (by decide +kernel) ?_
    refine op_loadP 1 (v := .int .i64 _) rfl rfl rfl rfl ?_
    refine dw_eff (i := 5) rfl (by decide +kernel) ?_
    refine op_fnMM [] [_] [_] (vs := [.pointer _, .int .i64 _]) rfl rfl rfl ((Upto_ok b x2 (m.buttons.length - 1) (by omega) h2)) ?_
    rintro _ h3 _ E3 ⟨x3, q0, rfl, rfl, q1, q2⟩
    refine ⟨ext_wlm E3 _, ?_⟩
    refine dw_norm [_, _] rfl ?_
    obtain ⟨q, rfl⟩ : ∃ q : Nat, q0 = q := ⟨q0.toNat, by omega⟩
    refine dw_last (i := 9) rfl (by decide +kernel) (by decide +kernel) ?_
    refine op_fnMM [] [_] [_] (vs := [.pointer _, .int .i64 _]) rfl rfl rfl (fnM_args (by simp only [List.cons.injEq, Value.int.injEq, true_and, and_true]; omega) (Pick_ok b x3 m.regs.toNat (by omega) h3)) ?_
    rintro _ h4 _ E4 ⟨x4, on, rfl, ⟨AO, cO, rfl, RO⟩, o1, o2, o3⟩
    refine dw_norm [_, _] rfl ?_
    obtain ⟨a, ha⟩ : ∃ a : HandP, a = ⟨[(q : Int)], on⟩ := ⟨_, rfl⟩
    have H : HOK m ⟨[(q : Int)], on⟩ := ⟨⟨fun z hz => by simp at hz; omega, by simp⟩, set_of (by omega) o1 o2⟩
    have F := fit_of M H
    refine dw_pure (i := 10) rfl (by decide +kernel) (pv_assign (v := .int .i64 _) rfl) ?_
    refine dw_pure (i := 11) rfl (by decide +kernel) (pv_assign (v := .slice _ _ _) rfl) ?_
    refine dw_end rfl ?_
    refine xp_seq ?_
    refine xp_region rfl ?_
    refine op_pure (pv_move (v := .int .i64 _) rfl) ?_
    refine op_buildSlice (zc := [_]) (vs := [(0, .int .i64 _)]) (cs := [_]) rfl rfl rfl rfl rfl rfl rfl fun b38 hb38 => ?_
    refine wp_norm [_, _, _] rfl ?_
    refine op_pure (pv_move (v := .slice _ _ _) rfl) ?_
    refine op_pure (pv_build (zc := [_, _]) (vs := [(0, .slice _ _ _), (1, .slice _ _ _)]) (cs := [_, _]) rfl rfl rfl rfl rfl rfl) ?_
    refine op_alloc (cs := [_, _]) rfl rfl fun b7 hb7 => ?_
    refine wp_norm [_, _, _, _] rfl ?_
    refine op_storeP 3 (v := .agg #[.slice _ _ _, .slice _ _ _]) (vs := [_, _]) (c' := [_, _]) rfl rfl rfl rfl rfl rfl rfl rfl rfl ?_
    refine wp_norm [_, _, _, _] rfl ?_
    refine goes_pub 2 rfl ?_
    intro h5 E5 p5
    have RH : HandR h5 (some ⟨b38, 0, none⟩) AO ⟨[(q : Int)], on⟩ := ⟨row_one p5, RO.ext E5⟩
    obtain ⟨la, hla⟩ : ∃ x, x = liftedM m (turnedM m ⟨[(q : Int)], on⟩ m.travel) := ⟨_, rfl⟩
    have ela : la.length = m.levers.toNat := by rw [hla, lifted_len]
    have ga : ∀ k (hk : k < la.length), la[k] = liftF m ⟨[(q : Int)], on⟩ m.travel k := fun k hk => by subst hla; exact lifted_at hk
    have d1 : ((la.length : Int) != m.levers) = false := by simp; omega
    have L1 := Lifts_ok rfl m ⟨[(q : Int)], on⟩ AB AQ AL AW (some ⟨b38, 0, none⟩) AO cB cQ cL cW 1 cO
    rw [hand_of M H, show liftsL m ⟨[(q : Int)], on⟩ = la by rw [liftsL, if_pos (hand_of M H), hla]] at L1
    refine xp_seq ?_
    refine xp_region rfl ?_
    refine op_loadPA 1 (vs := [.int .i64 _, .int .i64 _, .int .i64 _, .int .i64 _, .int .i64 _, .slice _ _ _, .slice _ _ _, .slice _ _ _, .slice _ _ _]) rfl rfl rfl rfl rfl ?_
    refine op_loadPA 3 (vs := [.slice _ _ _, .slice _ _ _]) rfl rfl rfl rfl rfl ?_
    refine op_fn (caps := []) (vs := [.agg _, .agg _]) rfl rfl rfl (L1 h5 (RM.ext (Ext.trans (Ext.trans E3 E4) E5)) (RH.ext (Ext.refl _)) M.wlen (by show 1 < 2 ^ 40; decide) (H.olen M)) ?_
    rintro _ h6 E6 ⟨_, rfl, A6, c6, rfl, S6⟩
    refine op_pure (pv_move (v := .tuple #[.slice _ _ _, .int .i64 _]) rfl) ?_
    refine op_pure (pv_of (v := .slice _ _ _) rfl) ?_
    refine op_pure (pv_of (v := .int .i64 _) rfl) ?_
    refine op_pure (pv_assign (v := .slice _ _ _) rfl) ?_
    refine op_pure (pv_assign (v := .int .i64 _) rfl) ?_
    refine xp_seq ?_
    refine xp_seq ?_
    refine xp_region rfl ?_
    refine op_pure (pv_move (v := .int .i64 _) rfl) ?_
    refine op_pure (pv_of (v := .bool _) rfl) ?_
    refine op_pure (pv_move (v := .bool _) rfl) ?_
    refine guard_yes rfl rfl ?_
    refine op_pure (pv_move (v := .slice _ _ _) rfl) ?_
    refine guard_yes rfl rfl ?_
    refine op_pure (pv_len rfl rfl) ?_
    refine guard_yes rfl rfl ?_
    refine op_pure (pv_fieldAddr rfl rfl rfl rfl 1 rfl) ?_
    refine guard_yes rfl rfl ?_
    refine op_loadP 1 (v := .int .i64 _) rfl rfl rfl rfl ?_
    refine guard_yes rfl rfl ?_
    refine op_pure (pv_of (v := .bool _) rfl) ?_
    refine op_pure (pv_pickF rfl rfl (v := .bool _) rfl) ?_
    refine xp_condF rfl (d1) ?_
    refine xp_skip ?_
    refine xp_seq ?_
    refine xp_seq ?_
    refine xp_region rfl ?_
    refine op_pure (pv_assign (v := .int .i64 _) rfl) ?_
    refine xp_block ?_
    refine xp_loopB [2, 10, 11, 12, 56, 57, 58, 59, 60, 61, 62, 63, 64, 65, 66, 67, 68, 69, 70, 71, 72, 73, 74, 75, 76, 77, 78, 79, 80, 81, 82, 83, 84, 85, 86, 87, 88, 89, 90, 91, 92, 93, 94, 95, 96, 97, 98] 4 (α := Nat) (fun v => [(10, .int .i64 v)]) (fun v => _) (fun v h_v => v ≤ m.levers.toNat) (fun v => m.levers.toNat - v) (0) ⟨rfl, trivial⟩ (rfl) (Nat.zero_le _) ?_
    rintro v T1 h_v E_v J_v
    refine goes_norm [_, _, _, _] rfl ?_
    refine xp_seq ?_
    refine xp_seq ?_
    refine xp_region rfl ?_
    refine op_pure (pv_move (v := .int .i64 _) rfl) ?_
    refine op_pure (pv_fieldAddr rfl rfl rfl rfl 1 rfl) ?_
    refine op_loadP 1 (v := .int .i64 _) rfl rfl rfl rfl ?_
    refine op_pure (pv_of (v := .bool _) rfl) ?_
    refine xp_cond rfl (fun hv => ?_) (fun hv => ?_)
    · skip
      have hvl : (v : Int) < m.levers := of_decide_eq_true hv
      have hka : v < la.length := by omega
      have e1 := ga v hka
      have lb := lift_le F (by omega : 0 ≤ m.travel) M.pin3 (by omega : (0 : Int) ≤ v) hvl
      have ln := lift_nonneg m ⟨[(q : Int)], on⟩ m.travel (by omega : (0 : Int) ≤ v) hvl M.pinl
      have D := Depth_ok rfl m on q v AB AQ AL AW AO cB cQ cL cW cO
      rw [depth_val M H (by omega) hvl, ← e1] at D
      rw [← e1] at lb ln
      obtain ⟨g, off, hA, hc⟩ := (S6.ext E_v).at (by omega) hka
      by_cases hlt : la[v] < m.opn
      · rw [if_pos hlt] at D
        refine xp_skip ?_
        refine xp_seq ?_
        refine xp_block ?_
        refine xp_seq ?_
        refine xp_region rfl ?_
        refine op_loadPA 1 (vs := [.int .i64 _, .int .i64 _, .int .i64 _, .int .i64 _, .int .i64 _, .slice _ _ _, .slice _ _ _, .slice _ _ _, .slice _ _ _]) rfl rfl rfl rfl rfl ?_
        refine op_pure (pv_move (v := .slice _ _ _) rfl) ?_
        refine op_pure (pv_move (v := .int .i64 _) rfl) ?_
        refine op_pure (pv_move (v := .int .i64 _) rfl) ?_
        refine op_fn (caps := []) (vs := [.agg #[.int .i64 _, .int .i64 _, .int .i64 _, .int .i64 _, .int .i64 _, .slice _ _ _, .slice _ _ _, .slice _ _ _, .slice _ _ _], .slice _ _ _, .int .i64 _, .int .i64 _]) rfl rfl rfl (D h_v (RM.ext (Ext.trans (Ext.trans (Ext.trans (Ext.trans E3 E4) E5) E6) E_v)) (RO.ext (Ext.trans (Ext.trans E5 E6) E_v)) M.wlen (H.olen M)) ?_
        rintro _ h7 E7 rfl
        have hc := hc.ext E7
        refine op_pure (pv_move (v := .tuple #[.int .i64 _, .int .i64 _]) rfl) ?_
        refine op_pure (pv_of (v := .int .i64 _) rfl) ?_
        refine op_pure (pv_of (v := .int .i64 _) rfl) ?_
        refine op_pure (pv_assign (v := .int .i64 _) rfl) ?_
        refine op_pure (pv_assign (v := .int .i64 _) rfl) ?_
        refine xp_seq ?_
        refine xp_seq ?_
        refine xp_dw [] rfl rfl rfl ?_
        refine dw_pure (i := 0) rfl (by decide +kernel) (pv_move (v := .slice _ _ _) rfl) ?_
        refine dw_pure (i := 1) rfl (by decide +kernel) (pv_move (v := .int .i64 _) rfl) ?_
        refine dw_pure (i := 2) rfl (by decide +kernel) (pv_indexE rfl hA rfl rfl rfl (by omega) (by omega)) ?_
        refine dw_load (i := 3) rfl (by decide +kernel) ?_
        refine op_load (v := .int .i64 _) rfl rfl ((hc) 0 _ rfl) ?_
        refine dw_pure (i := 4) rfl (by decide +kernel) (pv_fieldAddr rfl rfl rfl rfl 4 rfl) ?_
        refine dw_load (i := 5) rfl (by decide +kernel) ?_
        refine op_loadP 1 (v := .int .i64 _) rfl rfl rfl rfl ?_
        refine dw_pure (i := 6) rfl (by decide +kernel) (pv_of (v := .bool _) rfl) ?_
        refine dw_end rfl ?_
        refine xp_condT rfl (decide_eq_true hlt) ?_
        refine xp_seq ?_
        refine xp_seq ?_
        refine xp_region rfl ?_
        refine op_pure (pv_move (v := .int .i64 _) rfl) ?_
        refine op_pure (pv_of (v := .bool _) rfl) ?_
        refine op_pure (pv_move (v := .bool _) rfl) ?_
        refine guard_yes rfl rfl ?_
        refine op_pure (pv_move (v := .int .i64 _) rfl) ?_
        refine guard_yes rfl rfl ?_
        refine op_pure (pv_of (v := .bool _) rfl) ?_
        refine op_pure (pv_pickF rfl rfl (v := .bool _) rfl) ?_
        refine xp_condF rfl (rfl) ?_
        refine xp_skip ?_
        refine xp_exit ?_
        refine xp_region rfl ?_
        refine op_pure (pv_move (v := .int .i64 _) rfl) ?_
        refine op_pure (pv_arith rfl (by omega)) ?_
        refine op_pure (pv_assign (v := .int .i64 _) rfl) ?_
        refine ⟨v + 1, ⟨rfl, trivial⟩, rfl, rfl, (Ext.trans E_v E7), fun h3 E3 => by omega, by first | omega | (dsimp only; omega), ?_⟩
        repeat (first | exact off_base _ _ _ | refine off_upd (by decide) ?_ | refine off_updL rfl ?_ | refine off_mix rfl ?_)
      · rw [if_neg hlt] at D
        refine xp_skip ?_
        refine xp_seq ?_
        refine xp_block ?_
        refine xp_seq ?_
        refine xp_region rfl ?_
        refine op_loadPA 1 (vs := [.int .i64 _, .int .i64 _, .int .i64 _, .int .i64 _, .int .i64 _, .slice _ _ _, .slice _ _ _, .slice _ _ _, .slice _ _ _]) rfl rfl rfl rfl rfl ?_
        refine op_pure (pv_move (v := .slice _ _ _) rfl) ?_
        refine op_pure (pv_move (v := .int .i64 _) rfl) ?_
        refine op_pure (pv_move (v := .int .i64 _) rfl) ?_
        refine op_fn (caps := []) (vs := [.agg #[.int .i64 _, .int .i64 _, .int .i64 _, .int .i64 _, .int .i64 _, .slice _ _ _, .slice _ _ _, .slice _ _ _, .slice _ _ _], .slice _ _ _, .int .i64 _, .int .i64 _]) rfl rfl rfl (D h_v (RM.ext (Ext.trans (Ext.trans (Ext.trans (Ext.trans E3 E4) E5) E6) E_v)) (RO.ext (Ext.trans (Ext.trans E5 E6) E_v)) M.wlen (H.olen M)) ?_
        rintro _ h7 E7 rfl
        have hc := hc.ext E7
        refine op_pure (pv_move (v := .tuple #[.int .i64 _, .int .i64 _]) rfl) ?_
        refine op_pure (pv_of (v := .int .i64 _) rfl) ?_
        refine op_pure (pv_of (v := .int .i64 _) rfl) ?_
        refine op_pure (pv_assign (v := .int .i64 _) rfl) ?_
        refine op_pure (pv_assign (v := .int .i64 _) rfl) ?_
        refine xp_seq ?_
        refine xp_seq ?_
        refine xp_dw [] rfl rfl rfl ?_
        refine dw_pure (i := 0) rfl (by decide +kernel) (pv_move (v := .slice _ _ _) rfl) ?_
        refine dw_pure (i := 1) rfl (by decide +kernel) (pv_move (v := .int .i64 _) rfl) ?_
        refine dw_pure (i := 2) rfl (by decide +kernel) (pv_indexE rfl hA rfl rfl rfl (by omega) (by omega)) ?_
        refine dw_load (i := 3) rfl (by decide +kernel) ?_
        refine op_load (v := .int .i64 _) rfl rfl ((hc) 0 _ rfl) ?_
        refine dw_pure (i := 4) rfl (by decide +kernel) (pv_fieldAddr rfl rfl rfl rfl 4 rfl) ?_
        refine dw_load (i := 5) rfl (by decide +kernel) ?_
        refine op_loadP 1 (v := .int .i64 _) rfl rfl rfl rfl ?_
        refine dw_pure (i := 6) rfl (by decide +kernel) (pv_of (v := .bool _) rfl) ?_
        refine dw_end rfl ?_
        refine xp_condF rfl (decide_eq_false hlt) ?_
        refine xp_skip ?_
        refine xp_seq ?_
        refine xp_dw [] rfl rfl rfl ?_
        refine dw_pure (i := 0) rfl (by decide +kernel) (pv_move (v := .int .i64 _) rfl) ?_
        refine dw_pure (i := 1) rfl (by decide +kernel) (pv_of (v := .bool _) rfl) ?_
        refine dw_pure (i := 2) rfl (by decide +kernel) (pv_move (v := .bool _) rfl) ?_
        refine dw_pureG (i := 3) rfl (by decide +kernel) rfl rfl (pv_move (v := .int .i64 _) rfl) ?_
        refine dw_pureG (i := 4) rfl (by decide +kernel) rfl rfl (pv_fieldAddr rfl rfl rfl rfl 3 rfl) ?_
        refine dw_loadG (i := 5) rfl (by decide +kernel) rfl rfl ?_
        refine op_loadP 1 (v := .int .i64 _) rfl rfl rfl rfl ?_
        refine dw_pureG (i := 6) rfl (by decide +kernel) rfl rfl (pv_move (v := .slice _ _ _) rfl) ?_
        refine dw_pureG (i := 7) rfl (by decide +kernel) rfl rfl (pv_move (v := .int .i64 _) rfl) ?_
        refine dw_pureG (i := 8) rfl (by decide +kernel) rfl rfl (pv_indexE rfl hA rfl rfl rfl (by omega) (by omega)) ?_
        refine dw_loadG (i := 9) rfl (by decide +kernel) rfl rfl ?_
        refine op_load (v := .int .i64 _) rfl rfl ((hc) 0 _ rfl) ?_
        refine dw_pureG (i := 10) rfl (by decide +kernel) rfl rfl (pv_fieldAddr rfl rfl rfl rfl 4 rfl) ?_
        refine dw_loadG (i := 11) rfl (by decide +kernel) rfl rfl ?_
        refine op_loadP 1 (v := .int .i64 _) rfl rfl rfl rfl ?_
        refine dw_pureG (i := 12) rfl (by decide +kernel) rfl rfl (pv_arith rfl (by omega)) ?_
        refine dw_pureG (i := 13) rfl (by decide +kernel) rfl rfl (pv_arith rfl (by omega)) ?_
        refine dw_pureG (i := 14) rfl (by decide +kernel) rfl rfl (pv_of (v := .bool _) rfl) ?_
        refine dw_pure (i := 15) rfl (by decide +kernel) (pv_pickF rfl rfl (v := .bool _) rfl) ?_
        refine dw_end rfl ?_
        refine xp_condF rfl (by simp) ?_
        refine xp_skip ?_
        refine xp_region rfl ?_
        refine op_pure (pv_move (v := .int .i64 _) rfl) ?_
        refine op_pure (pv_arith rfl (by omega)) ?_
        refine op_pure (pv_assign (v := .int .i64 _) rfl) ?_
        refine ⟨v + 1, ⟨rfl, trivial⟩, rfl, rfl, (Ext.trans E_v E7), fun h3 E3 => by omega, by first | omega | (dsimp only; omega), ?_⟩
        repeat (first | exact off_base _ _ _ | refine off_upd (by decide) ?_ | refine off_updL rfl ?_ | refine off_mix rfl ?_)
    · skip
      refine xp_exit ?_
      refine xp_seq ?_
      refine xp_region rfl ?_
      refine op_loadPA 1 (vs := [.int .i64 _, .int .i64 _, .int .i64 _, .int .i64 _, .int .i64 _, .slice _ _ _, .slice _ _ _, .slice _ _ _, .slice _ _ _]) rfl rfl rfl rfl rfl ?_
      refine op_fnMM [_, _, _, _] [] [] rfl rfl rfl (CopyMachine_okM m AB AQ AL AW cB cQ cL cW h_v (RM.ext (Ext.trans (Ext.trans (Ext.trans (Ext.trans E3 E4) E5) E6) E_v)) (by omega) (by omega) (by omega) (by omega)) ?_
      rintro _ h8 _ E8 ⟨a1, a4, a2, a3, rfl, rfl, ha1, ha2, ha3, ha4⟩
      refine wp_norm [_, _, _, _, _, _, _, _] rfl ?_
      refine op_alloc (cs := [_, _, _, _, _, _, _, _, _]) rfl rfl fun b13 hb13 => ?_
      refine wp_norm [_, _, _, _, _, _, _, _, _] rfl ?_
      refine op_storeP 8 (v := .agg #[.int .i64 _, .int .i64 _, .int .i64 _, .int .i64 _, .int .i64 _, .slice _ _ _, .slice _ _ _, .slice _ _ _, .slice _ _ _]) (vs := [_, _, _, _, _, _, _, _, _]) (c' := [_, _, _, _, _, _, _, _, _]) rfl rfl rfl rfl rfl rfl rfl rfl rfl ?_
      refine wp_norm [_, _, _, _, _, _, _, _, _] rfl ?_
      obtain ⟨p1, A1, n1, c1⟩ := a1
      obtain ⟨p4, A4, n4, c4⟩ := a4
      obtain ⟨p2, A2, n2, c2⟩ := a2
      obtain ⟨p3, A3, n3, c3⟩ := a3
      obtain rfl : n1 = m.buttons.length := by have := AccR.len ha1; rw [flat_len (m := 1) (fun _ _ => rfl)] at this; dsimp only at this; omega
      obtain rfl : n4 = m.weights.length := by have := AccR.len ha4; rw [flat_len (m := 1) (fun _ _ => rfl)] at this; dsimp only at this; omega
      obtain rfl : n2 = m.pins.length := by have := AccR.len ha2; rw [flat_len (m := 3) (fun _ _ => rfl)] at this; dsimp only at this; omega
      obtain rfl : n3 = m.links.length := by have := AccR.len ha3; rw [flat_len (m := 4) (fun _ _ => rfl)] at this; dsimp only at this; omega
      dsimp only at *
      refine goes_pubO 4 rfl ?_
      intro g1 G1 P1
      refine goes_norm [_, _, _, _, _, _, _, _, _] rfl ?_
      refine goes_pubO 5 rfl ?_
      intro g4 G4 P4
      refine goes_norm [_, _, _, _, _, _, _, _, _] rfl ?_
      refine goes_pubO 6 rfl ?_
      intro g5 G5 P5
      refine goes_norm [_, _, _, _, _, _, _, _, _] rfl ?_
      refine goes_pubO 7 rfl ?_
      intro g6 G6 P6
      refine goes_norm [_, _, _, _, _, _, _, _, _] rfl ?_
      have RB : Row g6 1 intC A1 m.buttons := ⟨fun _ _ => rfl, (AccR.rd ha1 P1).ext (Ext.trans (Ext.trans G4 G5) G6)⟩
      have RP : Row g6 3 pinC A2 m.pins := ⟨fun _ _ => rfl, (AccR.rd ha2 P5).ext G6⟩
      have RL : Row g6 4 linkC A3 m.links := ⟨fun _ _ => rfl, AccR.rd ha3 P6⟩
      have RW : Row g6 1 intC A4 m.weights := ⟨fun _ _ => rfl, (AccR.rd ha4 P4).ext (Ext.trans G5 G6)⟩
      refine xp_seq ?_
      refine xp_region rfl ?_
      refine op_pure (pv_move (v := .pointer _) rfl) ?_
      refine op_pure (pv_fieldAddr rfl rfl rfl rfl 4 rfl) ?_
      refine op_loadP 1 (v := .int .i64 _) rfl rfl rfl rfl ?_
      refine op_pure (pv_fieldAddr rfl rfl rfl rfl 3 rfl) ?_
      refine op_loadP 1 (v := .int .i64 _) rfl rfl rfl rfl ?_
      refine op_fnMM [] [_] [_, _, _, _, _, _, _, _] (vs := [.pointer _, .int .i64 _, .int .i64 _]) rfl rfl rfl ((Within_ok b x4 m.opn m.travel (by omega) (by omega) (by omega) g6)) ?_
      rintro _ h9 _ E9 ⟨x9, t0, rfl, rfl, t1, t2⟩
      refine wp_norm [_, _, _, _, _, _, _, _, _] rfl ?_
      refine op_pure (pv_fieldAddr rfl rfl rfl rfl 3 rfl) ?_
      refine op_storeP 8 (v := .int .i64 _) (vs := [_]) (c' := [_, _, _, _, _, _, _, _, _]) rfl rfl rfl rfl rfl rfl rfl rfl rfl ?_
      refine wp_norm [_, _, _, _, _, _, _, _, _] rfl ?_
      refine xp_seq ?_
      refine xp_seq ?_
      refine xp_region rfl ?_
      refine op_pure (pv_assign (v := .int .i64 _) rfl) ?_
      refine xp_block ?_
      refine xp_loopL [14, 108, 109, 110, 111, 112, 113, 114, 115, 116, 117, 118, 119, 120, 121, 122, 123, 124] 9 (α := Nat × Int) (fun ⟨i, t⟩ => [(14, .int .i64 i)]) (fun ⟨i, t⟩ L => L.set 8 (some (b13, .cells #[.int .i64 m.rods, .int .i64 m.levers, .int .i64 m.regs, .int .i64 t, .int .i64 m.opn, .slice A1 m.buttons.length c1, .slice A2 m.pins.length c2, .slice A3 m.links.length c3, .slice A4 m.weights.length c4] 28 (0, 0)))) (fun ⟨i, t⟩ h_i => i ≤ m.pins.length ∧ (m.opn ≤ t ∧ t ≤ m.travel) ∧ ∀ p ∈ m.pins.take i, p.lag ≤ t) (fun ⟨i, t⟩ => m.pins.length - i) ((0, t0)) ⟨rfl, trivial⟩ (rfl) (⟨Nat.zero_le _, ⟨t1, t2⟩, fun p hp => by simp at hp⟩) ?_
      rintro ⟨i, t⟩ T2 h_i E_i J_i
      refine goes_norm [_, _, _, _, _, _, _, _, _] rfl ?_
      obtain ⟨K1, K2, K3⟩ := J_i
      refine xp_seq ?_
      refine xp_seq ?_
      refine xp_region rfl ?_
      refine op_pure (pv_move (v := .int .i64 _) rfl) ?_
      refine op_pure (pv_fieldAddr rfl rfl rfl rfl 6 rfl) ?_
      refine op_loadP 8 (v := .slice _ _ _) rfl rfl rfl rfl ?_
      refine op_pure (pv_len rfl rfl) ?_
      refine op_pure (pv_of (v := .bool _) rfl) ?_
      refine xp_cond rfl (fun hi => ?_) (fun hi => ?_)
      · skip
        have hil : i < m.pins.length := ltI hi
        have hpl := (M.pin _ (List.getElem_mem hil)).2.2
        obtain ⟨g, off, hA, hc⟩ := (RP.ext (Ext.trans E9 E_i)).at (by omega) hil
        refine xp_skip ?_
        refine xp_seq ?_
        refine xp_block ?_
        refine xp_dw [] rfl rfl rfl ?_
        refine dw_pure (i := 0) rfl (by decide +kernel) (pv_fieldAddr rfl rfl rfl rfl 3 rfl) ?_
        refine dw_load (i := 1) rfl (by decide +kernel) ?_
        refine op_loadP 8 (v := .int .i64 _) rfl rfl rfl rfl ?_
        refine dw_pure (i := 2) rfl (by decide +kernel) (pv_fieldAddr rfl rfl rfl rfl 6 rfl) ?_
        refine dw_load (i := 3) rfl (by decide +kernel) ?_
        refine op_loadP 8 (v := .slice _ _ _) rfl rfl rfl rfl ?_
        refine dw_pure (i := 4) rfl (by decide +kernel) (pv_move (v := .int .i64 _) rfl) ?_
        refine dw_pure (i := 5) rfl (by decide +kernel) (pv_indexE rfl hA rfl rfl rfl (by omega) (by omega)) ?_
        refine dw_pure (i := 6) rfl (by decide +kernel) (pv_fieldAddr rfl rfl rfl rfl _ rfl) ?_
        refine dw_load (i := 7) rfl (by decide +kernel) ?_
        refine op_load (v := .int .i64 _) rfl rfl (hc 2 _ rfl) ?_
        refine dw_pure (i := 8) rfl (by decide +kernel) (pv_max rfl rfl) ?_
        refine dw_pure (i := 9) rfl (by decide +kernel) (pv_fieldAddr rfl rfl rfl rfl 3 rfl) ?_
        refine dw_last (i := 10) rfl (by decide +kernel) (by decide +kernel) ?_
        refine op_storeP 8 (v := .int .i64 _) (vs := [_]) (c' := [_, _, _, _, _, _, _, _, _]) rfl rfl rfl rfl rfl rfl rfl rfl rfl ?_
        refine dw_norm [_, _, _, _, _, _, _, _, _] rfl ?_
        refine dw_end rfl ?_
        refine xp_region rfl ?_
        refine op_pure (pv_move (v := .int .i64 _) rfl) ?_
        refine op_pure (pv_arith rfl (by omega)) ?_
        refine op_pure (pv_assign (v := .int .i64 _) rfl) ?_
        refine ⟨(i + 1, max t m.pins[i].lag), ⟨rfl, trivial⟩, rfl, rfl, E_i, fun h3 E3 => ⟨hil, ⟨by omega, by omega⟩, by rw [take_snoc hil]; exact mem_one (fun p hp => by have := K3 p hp; omega) (by omega)⟩, by first | omega | (dsimp only; omega), ?_⟩
        repeat (first | exact off_base _ _ _ | refine off_upd (by decide) ?_ | refine off_updL rfl ?_ | refine off_mix rfl ?_)
      · skip
        have hie : i = m.pins.length := by have := geI hi; omega
        subst hie
        rw [List.take_length] at K3
        refine xp_exit ?_
        refine xp_seq ?_
        refine xp_seq ?_
        refine xp_region rfl ?_
        refine op_pure (pv_assign (v := .int .i64 _) rfl) ?_
        refine xp_block ?_
        refine xp_loopL [15, 125, 126, 127, 128, 129, 130, 131, 132, 133, 134, 135, 136, 137, 138, 139, 140, 141] 9 (α := Nat × Int) (fun ⟨j, u⟩ => [(15, .int .i64 j)]) (fun ⟨j, u⟩ L => L.set 8 (some (b13, .cells #[.int .i64 m.rods, .int .i64 m.levers, .int .i64 m.regs, .int .i64 u, .int .i64 m.opn, .slice A1 m.buttons.length c1, .slice A2 m.pins.length c2, .slice A3 m.links.length c3, .slice A4 m.weights.length c4] 28 (0, 0)))) (fun ⟨j, u⟩ h_j => j ≤ m.links.length ∧ (t ≤ u ∧ u ≤ m.travel) ∧ ∀ p ∈ m.links.take j, p.lag ≤ u) (fun ⟨j, u⟩ => m.links.length - j) ((0, t)) ⟨rfl, trivial⟩ (rfl) (⟨Nat.zero_le _, ⟨Int.le_refl _, K2.2⟩, fun p hp => by simp at hp⟩) ?_
        rintro ⟨j, u⟩ T3 h_j E_j J_j
        refine goes_norm [_, _, _, _, _, _, _, _, _] rfl ?_
        obtain ⟨L1, L2, L3⟩ := J_j
        refine xp_seq ?_
        refine xp_seq ?_
        refine xp_region rfl ?_
        refine op_pure (pv_move (v := .int .i64 _) rfl) ?_
        refine op_pure (pv_fieldAddr rfl rfl rfl rfl 7 rfl) ?_
        refine op_loadP 8 (v := .slice _ _ _) rfl rfl rfl rfl ?_
        refine op_pure (pv_len rfl rfl) ?_
        refine op_pure (pv_of (v := .bool _) rfl) ?_
        refine xp_cond rfl (fun hj => ?_) (fun hj => ?_)
        · skip
          have hjl : j < m.links.length := ltI hj
          have hpl := (M.link _ (List.getElem_mem hjl)).2.2.2.2
          obtain ⟨g, off, hA, hc⟩ := (RL.ext (Ext.trans (Ext.trans E9 E_i) E_j)).at (by omega) hjl
          refine xp_skip ?_
          refine xp_seq ?_
          refine xp_block ?_
          refine xp_dw [] rfl rfl rfl ?_
          refine dw_pure (i := 0) rfl (by decide +kernel) (pv_fieldAddr rfl rfl rfl rfl 3 rfl) ?_
          refine dw_load (i := 1) rfl (by decide +kernel) ?_
          refine op_loadP 8 (v := .int .i64 _) rfl rfl rfl rfl ?_
          refine dw_pure (i := 2) rfl (by decide +kernel) (pv_fieldAddr rfl rfl rfl rfl 7 rfl) ?_
          refine dw_load (i := 3) rfl (by decide +kernel) ?_
          refine op_loadP 8 (v := .slice _ _ _) rfl rfl rfl rfl ?_
          refine dw_pure (i := 4) rfl (by decide +kernel) (pv_move (v := .int .i64 _) rfl) ?_
          refine dw_pure (i := 5) rfl (by decide +kernel) (pv_indexE rfl hA rfl rfl rfl (by omega) (by omega)) ?_
          refine dw_pure (i := 6) rfl (by decide +kernel) (pv_fieldAddr rfl rfl rfl rfl _ rfl) ?_
          refine dw_load (i := 7) rfl (by decide +kernel) ?_
          refine op_load (v := .int .i64 _) rfl rfl (hc 3 _ rfl) ?_
          refine dw_pure (i := 8) rfl (by decide +kernel) (pv_max rfl rfl) ?_
          refine dw_pure (i := 9) rfl (by decide +kernel) (pv_fieldAddr rfl rfl rfl rfl 3 rfl) ?_
          refine dw_last (i := 10) rfl (by decide +kernel) (by decide +kernel) ?_
          refine op_storeP 8 (v := .int .i64 _) (vs := [_]) (c' := [_, _, _, _, _, _, _, _, _]) rfl rfl rfl rfl rfl rfl rfl rfl rfl ?_
          refine dw_norm [_, _, _, _, _, _, _, _, _] rfl ?_
          refine dw_end rfl ?_
          refine xp_region rfl ?_
          refine op_pure (pv_move (v := .int .i64 _) rfl) ?_
          refine op_pure (pv_arith rfl (by omega)) ?_
          refine op_pure (pv_assign (v := .int .i64 _) rfl) ?_
          refine ⟨(j + 1, max u m.links[j].lag), ⟨rfl, trivial⟩, rfl, rfl, E_j, fun h3 E3 => ⟨hjl, ⟨by omega, by omega⟩, by rw [take_snoc hjl]; exact mem_one (fun p hp => by have := L3 p hp; omega) (by omega)⟩, by first | omega | (dsimp only; omega), ?_⟩
          repeat (first | exact off_base _ _ _ | refine off_upd (by decide) ?_ | refine off_updL rfl ?_ | refine off_mix rfl ?_)
        · skip
          have hje : j = m.links.length := by have := geI hj; omega
          subst hje
          rw [List.take_length] at L3
          have ML : MOK { m with travel := u } := less_mok M (by omega) L2.2 (fun p hp => by have := K3 p hp; omega) L3
          have HL : HOK { m with travel := u } ⟨[(q : Int)], on⟩ := ⟨H.b, H.o⟩
          obtain ⟨lb, hlb⟩ : ∃ x, x = liftedM m (turnedM m ⟨[(q : Int)], on⟩ u) := ⟨_, rfl⟩
          have elb : lb.length = m.levers.toNat := by rw [hlb, lifted_len]
          have gb : ∀ k (hk : k < lb.length), lb[k] = liftF m ⟨[(q : Int)], on⟩ u k := fun k hk => by subst hlb; exact lifted_at hk
          have d2 : ((lb.length : Int) != m.levers) = false := by simp; omega
          have Lb := Lifts_ok rfl { m with travel := u } ⟨[(q : Int)], on⟩ A1 A2 A3 A4 (some ⟨b38, 0, none⟩) AO c1 c2 c3 c4 1 cO
          rw [hand_of ML HL, show liftsL { m with travel := u } ⟨[(q : Int)], on⟩ = lb by rw [liftsL, if_pos (hand_of ML HL), less_lift, hlb]] at Lb
          refine xp_exit ?_
          refine xp_seq ?_
          refine xp_region rfl ?_
          refine op_loadPA 8 (vs := [.int .i64 _, .int .i64 _, .int .i64 _, .int .i64 _, .int .i64 _, .slice _ _ _, .slice _ _ _, .slice _ _ _, .slice _ _ _]) rfl rfl rfl rfl rfl ?_
          refine op_loadPA 3 (vs := [.slice _ _ _, .slice _ _ _]) rfl rfl rfl rfl rfl ?_
          refine op_fn (caps := []) (vs := [.agg _, .agg _]) rfl rfl rfl (Lb h_j ⟨RB.ext (Ext.trans (Ext.trans E9 E_i) E_j), RP.ext (Ext.trans (Ext.trans E9 E_i) E_j), RL.ext (Ext.trans (Ext.trans E9 E_i) E_j), RW.ext (Ext.trans (Ext.trans E9 E_i) E_j)⟩ (RH.ext (Ext.trans (Ext.trans (Ext.trans (Ext.trans (Ext.trans (Ext.trans (Ext.trans (Ext.trans (Ext.trans E6 E_v) E8) G1) G4) G5) G6) E9) E_i) E_j)) ML.wlen (by show 1 < 2 ^ 40; decide) (HL.olen ML)) ?_
          rintro _ h10 E10 ⟨_, rfl, A10, c10, rfl, S10⟩
          refine op_pure (pv_move (v := .tuple #[.slice _ _ _, .int .i64 _]) rfl) ?_
          refine op_pure (pv_of (v := .slice _ _ _) rfl) ?_
          refine op_pure (pv_of (v := .int .i64 _) rfl) ?_
          refine op_pure (pv_assign (v := .slice _ _ _) rfl) ?_
          refine op_pure (pv_assign (v := .int .i64 _) rfl) ?_
          refine xp_seq ?_
          refine xp_seq ?_
          refine xp_region rfl ?_
          refine op_pure (pv_move (v := .int .i64 _) rfl) ?_
          refine op_pure (pv_of (v := .bool _) rfl) ?_
          refine op_pure (pv_move (v := .bool _) rfl) ?_
          refine guard_yes rfl rfl ?_
          refine op_pure (pv_move (v := .slice _ _ _) rfl) ?_
          refine guard_yes rfl rfl ?_
          refine op_pure (pv_len rfl rfl) ?_
          refine guard_yes rfl rfl ?_
          refine op_pure (pv_fieldAddr rfl rfl rfl rfl 1 rfl) ?_
          refine guard_yes rfl rfl ?_
          refine op_loadP 1 (v := .int .i64 _) rfl rfl rfl rfl ?_
          refine guard_yes rfl rfl ?_
          refine op_pure (pv_of (v := .bool _) rfl) ?_
          refine op_pure (pv_pickF rfl rfl (v := .bool _) rfl) ?_
          refine xp_condF rfl (d2) ?_
          refine xp_skip ?_
          refine xp_seq ?_
          refine xp_seq ?_
          refine xp_region rfl ?_
          refine op_pure (pv_assign (v := .int .i64 _) rfl) ?_
          refine xp_block ?_
          refine xp_loopB [2, 17, 157, 158, 159, 160, 161, 162, 163, 164, 165, 166, 167, 168, 169, 170, 171, 172, 173, 174, 175, 176, 177, 178] 9 (α := Nat) (fun k => [(17, .int .i64 k)]) (fun k => _) (fun k h_k => k ≤ m.levers.toNat) (fun k => m.levers.toNat - k) (0) ⟨rfl, trivial⟩ (rfl) (Nat.zero_le _) ?_
          rintro k T4 h_k E_k J_k
          refine goes_norm [_, _, _, _, _, _, _, _, _] rfl ?_
          refine xp_seq ?_
          refine xp_seq ?_
          refine xp_region rfl ?_
          refine op_pure (pv_move (v := .int .i64 _) rfl) ?_
          refine op_pure (pv_fieldAddr rfl rfl rfl rfl 1 rfl) ?_
          refine op_loadP 1 (v := .int .i64 _) rfl rfl rfl rfl ?_
          refine op_pure (pv_of (v := .bool _) rfl) ?_
          refine xp_cond rfl (fun hk => ?_) (fun hk => ?_)
          · skip
            have hkl : (k : Int) < m.levers := of_decide_eq_true hk
            have hka : k < la.length := by omega
            have hkb : k < lb.length := by omega
            have e1 := ga k hka
            have e2 := gb k hkb
            have lb0 := lift_le F (by omega : 0 ≤ m.travel) M.pin3 (by omega : (0 : Int) ≤ k) hkl
            have ln := lift_nonneg m ⟨[(q : Int)], on⟩ m.travel (by omega : (0 : Int) ≤ k) hkl M.pinl
            have e3 := lift_deep F (by omega : 0 ≤ u) L2.2 M.pin3 (by omega : (0 : Int) ≤ k) hkl
            rw [← e1, ← e2] at e3
            rw [← e1] at lb0 ln
            obtain ⟨g, off, hA, hc⟩ := (S6.ext (Ext.trans (Ext.trans (Ext.trans (Ext.trans (Ext.trans (Ext.trans (Ext.trans (Ext.trans (Ext.trans (Ext.trans E_v E8) G1) G4) G5) G6) E9) E_i) E_j) E10) E_k)).at (by omega) hka
            obtain ⟨g', off', hB, hd⟩ := (S10.ext E_k).at (by omega) hkb
            refine xp_skip ?_
            refine xp_seq ?_
            refine xp_block ?_
            refine xp_seq ?_
            refine xp_dw [] rfl rfl rfl ?_
            refine dw_pure (i := 0) rfl (by decide +kernel) (pv_move (v := .slice _ _ _) rfl) ?_
            refine dw_pure (i := 1) rfl (by decide +kernel) (pv_move (v := .int .i64 _) rfl) ?_
            refine dw_pure (i := 2) rfl (by decide +kernel) (pv_indexE rfl hB rfl rfl rfl (by omega) (by omega)) ?_
            refine dw_load (i := 3) rfl (by decide +kernel) ?_
            refine op_load (v := .int .i64 _) rfl rfl ((hd) 0 _ rfl) ?_
            refine dw_pure (i := 4) rfl (by decide +kernel) (pv_move (v := .slice _ _ _) rfl) ?_
            refine dw_pure (i := 5) rfl (by decide +kernel) (pv_move (v := .int .i64 _) rfl) ?_
            refine dw_pure (i := 6) rfl (by decide +kernel) (pv_indexE rfl hA rfl rfl rfl (by omega) (by omega)) ?_
            refine dw_load (i := 7) rfl (by decide +kernel) ?_
            refine op_load (v := .int .i64 _) rfl rfl ((hc) 0 _ rfl) ?_
            refine dw_pure (i := 8) rfl (by decide +kernel) (pv_fieldAddr rfl rfl rfl rfl 3 rfl) ?_
            refine dw_load (i := 9) rfl (by decide +kernel) ?_
            refine op_loadP 1 (v := .int .i64 _) rfl rfl rfl rfl ?_
            refine dw_pure (i := 10) rfl (by decide +kernel) (pv_fieldAddr rfl rfl rfl rfl 3 rfl) ?_
            refine dw_load (i := 11) rfl (by decide +kernel) ?_
            refine op_loadP 8 (v := .int .i64 _) rfl rfl rfl rfl ?_
            refine dw_pure (i := 12) rfl (by decide +kernel) (pv_arith rfl (by omega)) ?_
            refine dw_pure (i := 13) rfl (by decide +kernel) (pv_arith rfl (by omega)) ?_
            refine dw_pure (i := 14) rfl (by decide +kernel) (pv_max rfl rfl) ?_
            refine dw_pure (i := 15) rfl (by decide +kernel) (pv_of (v := .bool _) rfl) ?_
            refine dw_end rfl ?_
            refine xp_condF rfl (by rw [e3]; simp) ?_
            refine xp_skip ?_
            refine xp_region rfl ?_
            refine op_pure (pv_move (v := .int .i64 _) rfl) ?_
            refine op_pure (pv_arith rfl (by omega)) ?_
            refine op_pure (pv_assign (v := .int .i64 _) rfl) ?_
            refine ⟨k + 1, ⟨rfl, trivial⟩, rfl, rfl, E_k, fun h3 E3 => by omega, by first | omega | (dsimp only; omega), ?_⟩
            repeat (first | exact off_base _ _ _ | refine off_upd (by decide) ?_ | refine off_updL rfl ?_ | refine off_mix rfl ?_)
          · skip
            refine xp_exit ?_
            refine xp_seq ?_
            refine xp_region rfl ?_
            refine op_fn (caps := []) (vs := []) rfl rfl rfl (rod_sounding rfl h_k) ?_
            rintro _ h26 E26 rfl
            refine op_pure (pv_assign (v := .bool _) rfl) ?_
            refine xp_ret ?_
            exact ⟨rfl, fun V => (Ext.trans (Ext.trans (Ext.trans (Ext.trans (Ext.trans (Ext.trans (Ext.trans (Ext.trans (Ext.trans (Ext.trans (Ext.trans (Ext.trans (Ext.trans (Ext.trans (Ext.trans (Ext.trans (Ext.trans (Ext.trans E1 E2) E3) E4) E5) E6) E_v) E8) G1) G4) G5) G6) E9) E_i) E_j) E10) E_k) E26) (ext_wl V)), rfl⟩
end
end Go.Proofs.Ythphpbdmbmiaiaa
