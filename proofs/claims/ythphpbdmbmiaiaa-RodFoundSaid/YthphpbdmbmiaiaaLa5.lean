/- An own logic over the model, its walks and its plain laws, joined of parts R19 GQ Rm Rn Ro R20 R21 U Uc Rp GS R23 R29 R30 R31. Conditions: as each theorem states. -/
import Derived.Test.YthphpbdmbmiaiaaLa4
import Derived.Test.YthphpbdmbmiaiaaLa1
import Derived.Test.YthphpbdmbmiaiaaLa2
import Derived.Conc.LeavingOf
set_option linter.all false
/- Walks of the laws of rod: the chapter's examples hold. Conditions: as each theorem states. -/
namespace Go.Proofs.Ythphpbdmbmiaiaa
open Go Go.HL Go.Proofs Go.Wx Go.Rd
section
variable [Lvl]
set_option maxRecDepth 100000
theorem m0_hand : checkHandM mach0 ⟨[0, 1], []⟩ = 0 := by decide +kernel
theorem m0_lifts : liftsL mach0 ⟨[0, 1], []⟩ = [4, 3, 1, 0] := by decide +kernel
theorem m0_force : forceV mach0 ⟨[0, 1], []⟩ = 9 := by decide +kernel
theorem m0_hand2 : checkHandM mach0 ⟨[], [0]⟩ = 0 := by decide +kernel
theorem m0_chart : chartL mach0 [0] = [[0, 1, 2], [1]] := by decide +kernel
theorem m0_suspE : suspE mach0 (heard0 [0]) = 0 := by decide +kernel
theorem m0_suspL : suspL mach0 (heard0 [0]) = [1, 9] := by decide +kernel
theorem m0_testE : testE mach0 (heard0 [0]) = 0 := by decide +kernel
theorem m0_testN : testN mach0 (heard0 [0]) = 1 := by decide +kernel
theorem m0_testB : (testA mach0 (heard0 [0])).buttons = [1] := by decide +kernel
theorem m0_testO : (testA mach0 (heard0 [0])).on = [] := by decide +kernel
theorem m0_test : testA mach0 (heard0 [0]) = ⟨[1], []⟩ := by
  have h1 := m0_testB
  have h2 := m0_testO
  cases h : testA mach0 (heard0 [0]) with
  | mk b o => rw [h] at h1 h2; simp only at h1 h2; rw [h1, h2]
theorem hlen0 (l : List Int) (h : l.length < 2 ^ 40) : HLen (heard0 l) := ⟨by show 1 < 2 ^ 40; decide, fun x hx => by simp [heard0] at hx; subst hx; exact ⟨by show 1 < 2 ^ 40; decide, by show 0 < 2 ^ 40; decide, h⟩⟩
theorem rod_sounding (hph : Lvl.ph = true) (h : AH) : FnT Try.prog 28 #[] h (fun v _ => v = .bool true) := by
  have w0 : mach0.weights.length < 2 ^ 40 := by decide
  refine call_body Try.func28 rfl Try.ntmps28 rfl ?_
  refine xp_seq ?_
  refine xp_region rfl ?_
  refine op_pure (pv_assign (v := .bool _) rfl) ?_
  refine xp_seq ?_
  refine xp_region rfl ?_
  refine op_fn (caps := []) (vs := []) rfl rfl rfl (machine_ok h) ?_
  rintro _ h1 E1 ⟨AB1, AQ1, AL1, AW1, cB1, cQ1, cL1, cW1, rfl, M1⟩
  refine op_buildSlice (zc := [_]) (vs := [(0, .int .i64 _), (1, .int .i64 _)]) (cs := [_, _]) rfl rfl rfl rfl rfl rfl rfl fun b14 hb14 => ?_
  refine wp_norm [_] rfl ?_
  refine wp_pub 0 rfl rfl ?_
  intro h2 E2 p2
  refine wp_norm [_] rfl ?_
  refine op_fn (caps := []) (vs := [.slice _ _ _]) rfl rfl rfl (pressed_ok [0, 1] _ _ h2) ?_
  rintro _ h3 E3 rfl
  have R2 : Row h2 1 intC (some ⟨b14, 0, none⟩) [0, 1] := row_of_block (enc := intC) (m := 1) (l := [0, 1]) (fun _ _ => rfl) p2
  have H1 := Lifts_ok hph mach0 ⟨[0, 1], []⟩ AB1 AQ1 AL1 AW1 (some ⟨b14, 0, none⟩) none cB1 cQ1 cL1 cW1 2 0 h3 (M1.ext (Ext.trans E2 E3)) ⟨R2.ext E3, row_nil _ _⟩ w0 (by decide) (by decide)
  rw [m0_hand, m0_lifts] at H1
  refine op_fn (caps := []) (vs := [.agg #[.int .i64 _, .int .i64 _, .int .i64 _, .int .i64 _, .int .i64 _, .slice _ _ _, .slice _ _ _, .slice _ _ _, .slice _ _ _], .agg #[.slice _ _ _, .slice _ _ _]]) rfl rfl rfl (H1) ?_
  rintro _ h4 E4 ⟨_, rfl, A4, c4, rfl, S4⟩
  refine op_pure (pv_move (v := .tuple #[.slice _ _ _, .int .i64 _]) rfl) ?_
  refine op_pure (pv_of (v := .slice _ _ _) rfl) ?_
  refine op_pure (pv_of (v := .int .i64 _) rfl) ?_
  refine op_pure (pv_assign (v := .slice _ _ _) rfl) ?_
  refine op_pure (pv_assign (v := .int .i64 _) rfl) ?_
  refine xp_seq ?_
  refine xp_region rfl ?_
  refine op_fn (caps := []) (vs := []) rfl rfl rfl (machine_ok h4) ?_
  rintro _ h5 E5 ⟨AB2, AQ2, AL2, AW2, cB2, cQ2, cL2, cW2, rfl, M2⟩
  refine op_buildSlice (zc := [_]) (vs := [(0, .int .i64 _), (1, .int .i64 _)]) (cs := [_, _]) rfl rfl rfl rfl rfl rfl rfl fun b21 hb21 => ?_
  refine wp_norm [_, _] rfl ?_
  refine wp_pub 1 rfl rfl ?_
  intro h6 E6 p6
  refine wp_norm [_, _] rfl ?_
  refine op_fn (caps := []) (vs := [.slice _ _ _]) rfl rfl rfl (pressed_ok [0, 1] _ _ h6) ?_
  rintro _ h7 E7 rfl
  have R6 : Row h6 1 intC (some ⟨b21, 0, none⟩) [0, 1] := row_of_block (enc := intC) (m := 1) (l := [0, 1]) (fun _ _ => rfl) p6
  have H2 := Force_ok hph mach0 ⟨[0, 1], []⟩ AB2 AQ2 AL2 AW2 (some ⟨b21, 0, none⟩) none cB2 cQ2 cL2 cW2 2 0 h7 (M2.ext (Ext.trans E6 E7)) ⟨R6.ext E7, row_nil _ _⟩ w0 (by decide) (by decide)
  rw [m0_hand, m0_force] at H2
  refine op_fn (caps := []) (vs := [.agg #[.int .i64 _, .int .i64 _, .int .i64 _, .int .i64 _, .int .i64 _, .slice _ _ _, .slice _ _ _, .slice _ _ _, .slice _ _ _], .agg #[.slice _ _ _, .slice _ _ _]]) rfl rfl rfl (H2) ?_
  rintro _ h8 E8 rfl
  refine op_pure (pv_move (v := .tuple #[.int .i64 _, .int .i64 _]) rfl) ?_
  refine op_pure (pv_of (v := .int .i64 _) rfl) ?_
  refine op_pure (pv_of (v := .int .i64 _) rfl) ?_
  refine op_pure (pv_assign (v := .int .i64 _) rfl) ?_
  refine op_pure (pv_assign (v := .int .i64 _) rfl) ?_
  refine xp_seq ?_
  refine xp_region rfl ?_
  refine op_fn (caps := []) (vs := []) rfl rfl rfl (machine_ok h8) ?_
  rintro _ h9 E9 ⟨AB3, AQ3, AL3, AW3, cB3, cQ3, cL3, cW3, rfl, M3⟩
  refine op_buildSlice (zc := [_]) (vs := [(0, .int .i64 _)]) (cs := [_]) rfl rfl rfl rfl rfl rfl rfl fun b28 hb28 => ?_
  refine wp_norm [_, _, _] rfl ?_
  refine wp_pub 2 rfl rfl ?_
  intro h10 E10 p10
  refine wp_norm [_, _, _] rfl ?_
  have R10 : Row h10 1 intC (some ⟨b28, 0, none⟩) [0] := row_of_block (enc := intC) (m := 1) (l := [0]) (fun _ _ => rfl) p10
  have H3 := Chart_ok hph mach0 [0] AB3 AQ3 AL3 AW3 (some ⟨b28, 0, none⟩) cB3 cQ3 cL3 cW3 1 h10 (M3.ext E10) R10 w0 (by decide)
  rw [m0_hand2, m0_chart] at H3
  refine op_fn (caps := []) (vs := [.agg #[.int .i64 _, .int .i64 _, .int .i64 _, .int .i64 _, .int .i64 _, .slice _ _ _, .slice _ _ _, .slice _ _ _, .slice _ _ _], .slice _ _ _]) rfl rfl rfl (H3) ?_
  rintro _ h11 E11 ⟨_, rfl, S11⟩
  obtain ⟨cs11, A11, c11, rfl, R11, L11⟩ := SlX.els S11
  refine op_pure (pv_move (v := .tuple #[.slice _ _ _, .int .i64 _]) rfl) ?_
  refine op_pure (pv_of (v := .slice _ _ _) rfl) ?_
  refine op_pure (pv_of (v := .int .i64 _) rfl) ?_
  refine op_pure (pv_assign (v := .slice _ _ _) rfl) ?_
  refine op_pure (pv_assign (v := .int .i64 _) rfl) ?_
  refine xp_seq ?_
  refine xp_region rfl ?_
  refine op_fn (caps := []) (vs := []) rfl rfl rfl (machine_ok h11) ?_
  rintro _ h12 E12 ⟨AB4, AQ4, AL4, AW4, cB4, cQ4, cL4, cW4, rfl, M4⟩
  refine op_buildSlice (zc := [_]) (vs := [(0, .int .i64 _)]) (cs := [_]) rfl rfl rfl rfl rfl rfl rfl fun b34 hb34 => ?_
  refine wp_norm [_, _, _, _] rfl ?_
  refine wp_pub 3 rfl rfl ?_
  intro h13 E13 p13
  refine wp_norm [_, _, _, _] rfl ?_
  have R13 : Row h13 1 intC (some ⟨b34, 0, none⟩) [0] := row_of_block (enc := intC) (m := 1) (l := [0]) (fun _ _ => rfl) p13
  refine op_fn (caps := []) (vs := [.slice _ _ _]) rfl rfl rfl (sounded_ok [0] _ _ h13 R13) ?_
  rintro _ h14 E14 ⟨UA4, cU4, cs4, rfl, RU4, EU4⟩
  have H4 := Suspects_ok hph mach0 (heard0 [0]) (hlen0 _ (by decide)) AB4 AQ4 AL4 AW4 UA4 cB4 cQ4 cL4 cW4 cU4 cs4 h14 (M4.ext (Ext.trans E13 E14)) w0 RU4 EU4
  rw [m0_suspE, m0_suspL] at H4
  refine op_fn (caps := []) (vs := [.agg #[.int .i64 _, .int .i64 _, .int .i64 _, .int .i64 _, .int .i64 _, .slice _ _ _, .slice _ _ _, .slice _ _ _, .slice _ _ _], .slice _ _ _]) rfl rfl rfl (H4) ?_
  rintro _ h15 E15 ⟨_, rfl, A15, c15, rfl, S15⟩
  refine op_pure (pv_move (v := .tuple #[.slice _ _ _, .int .i64 _]) rfl) ?_
  refine op_pure (pv_of (v := .slice _ _ _) rfl) ?_
  refine op_pure (pv_of (v := .int .i64 _) rfl) ?_
  refine op_pure (pv_assign (v := .slice _ _ _) rfl) ?_
  refine op_pure (pv_assign (v := .int .i64 _) rfl) ?_
  refine xp_seq ?_
  refine xp_region rfl ?_
  refine op_fn (caps := []) (vs := []) rfl rfl rfl (machine_ok h15) ?_
  rintro _ h16 E16 ⟨AB5, AQ5, AL5, AW5, cB5, cQ5, cL5, cW5, rfl, M5⟩
  refine op_buildSlice (zc := [_]) (vs := [(0, .int .i64 _)]) (cs := [_]) rfl rfl rfl rfl rfl rfl rfl fun b41 hb41 => ?_
  refine wp_norm [_, _, _, _, _] rfl ?_
  refine wp_pub 4 rfl rfl ?_
  intro h17 E17 p17
  refine wp_norm [_, _, _, _, _] rfl ?_
  have R17 : Row h17 1 intC (some ⟨b41, 0, none⟩) [0] := row_of_block (enc := intC) (m := 1) (l := [0]) (fun _ _ => rfl) p17
  refine op_fn (caps := []) (vs := [.slice _ _ _]) rfl rfl rfl (sounded_ok [0] _ _ h17 R17) ?_
  rintro _ h18 E18 ⟨UA5, cU5, cs5, rfl, RU5, EU5⟩
  have H5 := Test_ok hph mach0 (heard0 [0]) (hlen0 _ (by decide)) AB5 AQ5 AL5 AW5 UA5 cB5 cQ5 cL5 cW5 cU5 cs5 h18 (M5.ext (Ext.trans E17 E18)) w0 RU5 EU5
  rw [m0_testE, m0_testN, m0_test] at H5
  refine op_fn (caps := []) (vs := [.agg #[.int .i64 _, .int .i64 _, .int .i64 _, .int .i64 _, .int .i64 _, .slice _ _ _, .slice _ _ _, .slice _ _ _, .slice _ _ _], .slice _ _ _]) rfl rfl rfl (H5) ?_
  rintro _ h19 E19 ⟨_, rfl, V19⟩
  obtain ⟨HA, OA, cH, cO, rfl, RH⟩ := HandV.open V19
  refine op_pure (pv_move (v := .tuple #[.agg #[.slice _ _ _, .slice _ _ _], .int .i64 _, .int .i64 _]) rfl) ?_
  refine op_pure (pv_of (v := .agg #[.slice _ _ _, .slice _ _ _]) rfl) ?_
  refine op_pure (pv_of (v := .int .i64 _) rfl) ?_
  refine op_pure (pv_of (v := .int .i64 _) rfl) ?_
  refine op_alloc (cs := [_, _]) rfl rfl fun b9 hb9 => ?_
  refine wp_norm [_, _, _, _, _, _] rfl ?_
  refine op_storeP 5 (v := .agg #[.slice _ _ _, .slice _ _ _]) (vs := [_, _]) (c' := [_, _]) rfl rfl rfl rfl rfl rfl rfl rfl rfl ?_
  refine wp_norm [_, _, _, _, _, _] rfl ?_
  refine op_pure (pv_assign (v := .int .i64 _) rfl) ?_
  refine op_pure (pv_assign (v := .int .i64 _) rfl) ?_
  refine xp_seq ?_
  refine xp_dw [] rfl rfl rfl ?_
  refine dw_pure (i := 0) rfl (by decide +kernel) (pv_move (v := .int .i64 _) rfl) ?_
  refine dw_pure (i := 1) rfl (by decide +kernel) (pv_of (v := .bool _) rfl) ?_
  refine dw_pure (i := 2) rfl (by decide +kernel) (pv_move (v := .bool _) rfl) ?_
  refine dw_pureG (i := 3) rfl (by decide +kernel) rfl rfl (pv_move (v := .int .i64 _) rfl) ?_
  refine dw_pureG (i := 4) rfl (by decide +kernel) rfl rfl (pv_of (v := .bool _) rfl) ?_
  refine dw_pure (i := 5) rfl (by decide +kernel) (pv_pickT rfl rfl (v := .bool _) rfl) ?_
  refine dw_pure (i := 6) rfl (by decide +kernel) (pv_move (v := .bool _) rfl) ?_
  refine dw_pureG (i := 7) rfl (by decide +kernel) rfl rfl (pv_move (v := .int .i64 _) rfl) ?_
  refine dw_pureG (i := 8) rfl (by decide +kernel) rfl rfl (pv_of (v := .bool _) rfl) ?_
  refine dw_pure (i := 9) rfl (by decide +kernel) (pv_pickT rfl rfl (v := .bool _) rfl) ?_
  refine dw_pure (i := 10) rfl (by decide +kernel) (pv_move (v := .bool _) rfl) ?_
  refine dw_pureG (i := 11) rfl (by decide +kernel) rfl rfl (pv_move (v := .int .i64 _) rfl) ?_
  refine dw_pureG (i := 12) rfl (by decide +kernel) rfl rfl (pv_of (v := .bool _) rfl) ?_
  refine dw_pure (i := 13) rfl (by decide +kernel) (pv_pickT rfl rfl (v := .bool _) rfl) ?_
  refine dw_pure (i := 14) rfl (by decide +kernel) (pv_move (v := .bool _) rfl) ?_
  refine dw_pureG (i := 15) rfl (by decide +kernel) rfl rfl (pv_move (v := .int .i64 _) rfl) ?_
  refine dw_pureG (i := 16) rfl (by decide +kernel) rfl rfl (pv_of (v := .bool _) rfl) ?_
  refine dw_pure (i := 17) rfl (by decide +kernel) (pv_pickT rfl rfl (v := .bool _) rfl) ?_
  refine dw_pure (i := 18) rfl (by decide +kernel) (pv_move (v := .bool _) rfl) ?_
  refine dw_pureG (i := 19) rfl (by decide +kernel) rfl rfl (pv_move (v := .int .i64 _) rfl) ?_
  refine dw_pureG (i := 20) rfl (by decide +kernel) rfl rfl (pv_of (v := .bool _) rfl) ?_
  refine dw_pure (i := 21) rfl (by decide +kernel) (pv_pickT rfl rfl (v := .bool _) rfl) ?_
  refine dw_pure (i := 22) rfl (by decide +kernel) (pv_move (v := .bool _) rfl) ?_
  refine dw_pureG (i := 23) rfl (by decide +kernel) rfl rfl (pv_move (v := .int .i64 _) rfl) ?_
  refine dw_pureG (i := 24) rfl (by decide +kernel) rfl rfl (pv_of (v := .bool _) rfl) ?_
  refine dw_pure (i := 25) rfl (by decide +kernel) (pv_pickT rfl rfl (v := .bool _) rfl) ?_
  refine dw_pure (i := 26) rfl (by decide +kernel) (pv_move (v := .bool _) rfl) ?_
  refine dw_pureG (i := 27) rfl (by decide +kernel) rfl rfl (pv_move (v := .slice _ _ _) rfl) ?_
  refine dw_lastH (i := 28) rfl (by decide +kernel) (by decide +kernel) rfl rfl ?_
  refine op_buildSlice (zc := [_]) (vs := [(0, .int .i64 _), (1, .int .i64 _), (2, .int .i64 _), (3, .int .i64 _)]) (cs := [_, _, _, _]) rfl rfl rfl rfl rfl rfl rfl fun b75 hb75 => ?_
  refine dw_norm [_, _, _, _, _, _, _] rfl ?_
  refine dw_pub 6 rfl ?_
  intro g1 F1 q1
  refine dw_norm [_, _, _, _, _, _, _] rfl ?_
  refine dw_lastH (i := 29) rfl (by decide +kernel) (by decide +kernel) rfl rfl ?_
  refine op_fn (caps := []) (vs := [.slice _ _ _, .slice _ _ _]) rfl rfl rfl (sameInts_ok [4, 3, 1, 0] [4, 3, 1, 0] _ _ _ _ g1 (S4.ext (Ext.trans (Ext.trans (Ext.trans (Ext.trans (Ext.trans (Ext.trans (Ext.trans (Ext.trans (Ext.trans (Ext.trans (Ext.trans (Ext.trans (Ext.trans (Ext.trans (Ext.trans E5 E6) E7) E8) E9) E10) E11) E12) E13) E14) E15) E16) E17) E18) E19) F1)) (row_of_block (enc := intC) (m := 1) (l := [4, 3, 1, 0]) (fun _ _ => rfl) q1) (by decide)) ?_
  rintro _ g2 F2 rfl
  refine dw_pure (i := 30) rfl (by decide +kernel) (pv_pickT rfl rfl (v := .bool _) rfl) ?_
  refine dw_pure (i := 31) rfl (by decide +kernel) (pv_move (v := .bool _) rfl) ?_
  refine dw_pureG (i := 32) rfl (by decide +kernel) rfl rfl (pv_move (v := .slice _ _ _) rfl) ?_
  refine dw_lastH (i := 33) rfl (by decide +kernel) (by decide +kernel) rfl rfl ?_
  refine op_buildSlice (zc := [_]) (vs := [(0, .int .i64 _), (1, .int .i64 _), (2, .int .i64 _)]) (cs := [_, _, _]) rfl rfl rfl rfl rfl rfl rfl fun b80 hb80 => ?_
  refine dw_norm [_, _, _, _, _, _, _, _] rfl ?_
  refine dw_lastH (i := 34) rfl (by decide +kernel) (by decide +kernel) rfl rfl ?_
  refine op_buildSlice (zc := [_]) (vs := [(0, .int .i64 _)]) (cs := [_]) rfl rfl rfl rfl rfl rfl rfl fun b81 hb81 => ?_
  refine dw_norm [_, _, _, _, _, _, _, _, _] rfl ?_
  refine dw_lastH (i := 35) rfl (by decide +kernel) (by decide +kernel) rfl rfl ?_
  refine op_buildSlice (zc := [_]) (vs := [(0, .slice _ _ _), (1, .slice _ _ _)]) (cs := [_, _]) rfl rfl rfl rfl rfl rfl rfl fun b82 hb82 => ?_
  refine dw_norm [_, _, _, _, _, _, _, _, _, _] rfl ?_
  refine dw_pub 7 rfl ?_
  intro g3 F3 q3
  refine dw_norm [_, _, _, _, _, _, _, _, _, _] rfl ?_
  refine dw_pub 8 rfl ?_
  intro g4 F4 q4
  refine dw_norm [_, _, _, _, _, _, _, _, _, _] rfl ?_
  refine dw_pub 9 rfl ?_
  intro g5 F5 q5
  refine dw_norm [_, _, _, _, _, _, _, _, _, _] rfl ?_
  have RL : Row g5 1 id (some ⟨b82, 0, none⟩) [[.slice (some ⟨b80, 0, none⟩) 3 3], [.slice (some ⟨b81, 0, none⟩) 1 1]] := row_of_block (enc := id) (m := 1) (l := [[.slice (some ⟨b80, 0, none⟩) 3 3], [.slice (some ⟨b81, 0, none⟩) 1 1]]) (fun x hx => by simp at hx; rcases hx with rfl | rfl <;> rfl) q5
  have EL : Els g5 TL [[0, 1, 2], [1]] [[.slice (some ⟨b80, 0, none⟩) 3 3], [.slice (some ⟨b81, 0, none⟩) 1 1]] := by
    refine ⟨rfl, fun i x c h1 h2 => ?_⟩
    match i, h1, h2 with
    | 0, h1, h2 => cases h1; cases h2; exact ⟨_, rfl, some ⟨b80, 0, none⟩, 3, rfl, (row_of_block (enc := intC) (m := 1) (l := [0, 1, 2]) (fun _ _ => rfl) q3).ext (Ext.trans F4 F5)⟩
    | 1, h1, h2 => cases h1; cases h2; exact ⟨_, rfl, some ⟨b81, 0, none⟩, 1, rfl, (row_of_block (enc := intC) (m := 1) (l := [1]) (fun _ _ => rfl) q4).ext F5⟩
    | i + 2, h1, h2 => simp at h1
  refine dw_lastH (i := 36) rfl (by decide +kernel) (by decide +kernel) rfl rfl ?_
  refine op_fn (caps := []) (vs := [.slice _ _ _, .slice _ _ _]) rfl rfl rfl (sameLists_ok [[0, 1, 2], [1]] [[0, 1, 2], [1]] _ _ _ _ cs11 _ g5 (R11.ext (Ext.trans (Ext.trans (Ext.trans (Ext.trans (Ext.trans (Ext.trans (Ext.trans (Ext.trans (Ext.trans (Ext.trans (Ext.trans (Ext.trans E12 E13) E14) E15) E16) E17) E18) E19) F1) F2) F3) F4) F5)) (L11.ext TL.mono (Ext.trans (Ext.trans (Ext.trans (Ext.trans (Ext.trans (Ext.trans (Ext.trans (Ext.trans (Ext.trans (Ext.trans (Ext.trans (Ext.trans E12 E13) E14) E15) E16) E17) E18) E19) F1) F2) F3) F4) F5)) RL EL (by decide) (by decide)) ?_
  rintro _ g6 F6 rfl
  refine dw_pure (i := 37) rfl (by decide +kernel) (pv_pickT rfl rfl (v := .bool _) rfl) ?_
  refine dw_pure (i := 38) rfl (by decide +kernel) (pv_move (v := .bool _) rfl) ?_
  refine dw_pureG (i := 39) rfl (by decide +kernel) rfl rfl (pv_move (v := .slice _ _ _) rfl) ?_
  refine dw_lastH (i := 40) rfl (by decide +kernel) (by decide +kernel) rfl rfl ?_
  refine op_buildSlice (zc := [_]) (vs := [(0, .int .i64 _), (1, .int .i64 _)]) (cs := [_, _]) rfl rfl rfl rfl rfl rfl rfl fun b87 hb87 => ?_
  refine dw_norm [_, _, _, _, _, _, _, _, _, _, _] rfl ?_
  refine dw_pub 10 rfl ?_
  intro g7 F7 q7
  refine dw_norm [_, _, _, _, _, _, _, _, _, _, _] rfl ?_
  refine dw_lastH (i := 41) rfl (by decide +kernel) (by decide +kernel) rfl rfl ?_
  refine op_fn (caps := []) (vs := [.slice _ _ _, .slice _ _ _]) rfl rfl rfl (sameInts_ok [1, 9] [1, 9] _ _ _ _ g7 (S15.ext (Ext.trans (Ext.trans (Ext.trans (Ext.trans (Ext.trans (Ext.trans (Ext.trans (Ext.trans (Ext.trans (Ext.trans E16 E17) E18) E19) F1) F2) F3) F4) F5) F6) F7)) (row_of_block (enc := intC) (m := 1) (l := [1, 9]) (fun _ _ => rfl) q7) (by decide)) ?_
  rintro _ g8 F8 rfl
  refine dw_pure (i := 42) rfl (by decide +kernel) (pv_pickT rfl rfl (v := .bool _) rfl) ?_
  refine dw_pure (i := 43) rfl (by decide +kernel) (pv_move (v := .bool _) rfl) ?_
  refine dw_loadG (i := 44) rfl (by decide +kernel) rfl rfl ?_
  refine op_loadPA 5 (vs := [.slice _ _ _, .slice _ _ _]) rfl rfl rfl rfl rfl ?_
  refine dw_effH (i := 45) rfl (by decide +kernel) rfl rfl ?_
  refine op_buildSlice (zc := [_]) (vs := [(0, .int .i64 _)]) (cs := [_]) rfl rfl rfl rfl rfl rfl rfl fun b92 hb92 => ?_
  refine ⟨ext_new hb92 _, ?_⟩
  refine dw_norm [_, _, _, _, _, _, _, _, _, _, _, _] rfl ?_
  refine dw_pub 11 rfl ?_
  intro g9 F9 q9
  refine dw_norm [_, _, _, _, _, _, _, _, _, _, _, _] rfl ?_
  refine dw_effH (i := 46) rfl (by decide +kernel) rfl rfl ?_
  refine op_fn (caps := []) (vs := [.slice _ _ _]) rfl rfl rfl (pressed_ok [1] _ _ g9) ?_
  rintro _ g10 F10 rfl
  refine ⟨ext_wlm F10 _, ?_⟩
  refine dw_lastH (i := 47) rfl (by decide +kernel) (by decide +kernel) rfl rfl ?_
  refine op_fn (caps := []) (vs := [.agg _, .agg _]) rfl rfl rfl (sameHands_ok ⟨[1], []⟩ ⟨[1], []⟩ _ _ _ _ _ _ _ _ g10 (RH.ext (Ext.trans (Ext.trans (Ext.trans (Ext.trans (Ext.trans (Ext.trans (Ext.trans (Ext.trans (Ext.trans F1 F2) F3) F4) F5) F6) F7) F8) F9) F10)) ⟨(row_of_block (enc := intC) (m := 1) (l := [1]) (fun _ _ => rfl) q9).ext F10, row_nil _ _⟩ (by decide) (by decide)) ?_
  rintro _ g11 F11 rfl
  refine dw_pure (i := 48) rfl (by decide +kernel) (pv_pickT rfl rfl (v := .bool _) rfl) ?_
  refine dw_pure (i := 49) rfl (by decide +kernel) (pv_assign (v := .bool _) rfl) ?_
  refine dw_end rfl ?_
  refine xp_ret ?_
  refine res_list (vs := [_]) Try.results28 ⟨resV_tmp rfl rfl, trivial⟩ fun V => ?_
  exact ⟨(Ext.trans (Ext.trans (Ext.trans (Ext.trans (Ext.trans (Ext.trans (Ext.trans (Ext.trans (Ext.trans (Ext.trans (Ext.trans (Ext.trans (Ext.trans (Ext.trans (Ext.trans (Ext.trans (Ext.trans (Ext.trans (Ext.trans (Ext.trans (Ext.trans (Ext.trans (Ext.trans (Ext.trans (Ext.trans (Ext.trans (Ext.trans (Ext.trans (Ext.trans (Ext.trans E1 E2) E3) E4) E5) E6) E7) E8) E9) E10) E11) E12) E13) E14) E15) E16) E17) E18) E19) F1) F2) F3) F4) F5) F6) F7) F8) F9) F10) F11) (ext_wl V)), rfl⟩
end
end Go.Proofs.Ythphpbdmbmiaiaa
/- The own logic, part GQ: quotients and remainders of ints. Conditions: none. -/
namespace Go.HL
open Go
variable [Lvl]
section
variable {P : Program} {n : Nat} {d : Option Tmp} {ty : TypeId} {ps : String} {af : Array Edge} {S : Sl} {t u : TypeId} {x y : Operand}
theorem pv_remT {a b : Int} (hx : ev n S x = .int .i64 a) (hy : ev n S y = .int .i64 b) (hb : b ≠ 0) :
    pev P (execOp (ev n S) ⟨d, .binOp .rem t x y u, ty, ps, af, none⟩) = some (.value (.int .i64 (a.tmod b))) := by
  simp only [execOp, hx, hy, binOp, Op.intDiv, if_neg hb]
  rfl
theorem pv_quoT {a b c : Int} (hx : ev n S x = .int .i64 a) (hy : ev n S y = .int .i64 b) (hb : b ≠ 0) (hc : a.tdiv b = c) (h : -2 ^ 63 ≤ c ∧ c < 2 ^ 63) :
    pev P (execOp (ev n S) ⟨d, .binOp .quo t x y u, ty, ps, af, none⟩) = some (.value (.int .i64 c)) := by
  subst hc
  have e : IntKind.wrap .i64 (a.tdiv b) = a.tdiv b := IntWalk.i64_in _ ⟨by omega, by omega⟩
  simp only [execOp, hx, hy, binOp, Op.intDiv, if_neg hb, e]
  rfl
end
end Go.HL
/- Plain: other numbers of rods and levers, another order of pins. Conditions: none. -/
namespace Go.Rd
open Go Go.HL Go.Wx
variable [Lvl]
/-- Rods renamed by s. -/
def renL (s : Int → Int) (l : LinkP) : LinkP := ⟨s l.frm, s l.to, l.reg, l.lag⟩
structure RenR (s : Int → Int) (m m' : MachP) : Prop where
  rods : m'.rods = m.rods
  bd : ∀ r, 0 ≤ r → r < m.rods → 0 ≤ s r ∧ s r < m.rods
  btn : m'.buttons = m.buttons.map s
  links : m'.links = m.links.map (renL s)
/-- Renamed, and back. -/
structure Inv (s t : Int → Int) (n : Int) : Prop where
  sb : ∀ r, 0 ≤ r → r < n → 0 ≤ s r ∧ s r < n
  tb : ∀ r, 0 ≤ r → r < n → 0 ≤ t r ∧ t r < n
  ts : ∀ r, 0 ≤ r → r < n → t (s r) = r
  st : ∀ r, 0 ≤ r → r < n → s (t r) = r
end Go.Rd
/- Plain: sums in any order; rods that nothing turns. Conditions: none. -/
namespace Go.Rd
open Go Go.HL Go.Wx
variable [Lvl]
end Go.Rd
/- Plain: buttons that are pressed down less deep. Conditions: none. -/
namespace Go.Rd
open Go Go.HL Go.Wx
variable [Lvl]
end Go.Rd
/- Walks: machines and hands that are made of numbers, copies. Conditions: as each theorem states. -/
namespace Go.Proofs.Ythphpbdmbmiaiaa
open Go Go.HL Go.Proofs Go.Wx Go.Rd
section
variable [Lvl]
set_option maxRecDepth 100000
theorem tmod_gt (x : Int) {n : Int} (hn : 0 < n) : -n < x.tmod n := by
  by_cases h : 0 ≤ x
  · have := Int.tmod_nonneg n h; omega
  · obtain ⟨y, rfl⟩ : ∃ y, x = -y := ⟨-x, by omega⟩
    rw [Int.neg_tmod]
    have := Int.tmod_lt_of_pos y hn
    omega
def turnI (x n : Int) : Int := if n < 2 then 0 else (x.tmod n + n).tmod n
theorem turnI_bd (x n : Int) : 0 ≤ turnI x n ∧ (1 ≤ n → turnI x n < n) := by
  unfold turnI
  split
  · omega
  · rename_i h
    have h1 : -n < x.tmod n := tmod_gt x (by omega)
    have h2 : 0 ≤ x.tmod n + n := by omega
    exact ⟨Int.tmod_nonneg n h2, fun _ => Int.tmod_lt_of_pos _ (by omega)⟩
theorem turnI_ne {f d n : Int} (hn : 2 ≤ n) (h0 : 0 ≤ f ∧ f < n) (hd : 1 ≤ d ∧ d < n) : turnI (f + d) n ≠ f := by
  unfold turnI
  rw [if_neg (by omega)]
  rw [Int.tmod_eq_emod_of_nonneg (by omega : 0 ≤ f + d), Int.tmod_eq_emod_of_nonneg (by have := Int.emod_nonneg (f + d) (by omega : n ≠ 0); omega)]
  rw [Int.add_emod_right, Int.emod_emod]
  intro e
  by_cases h : f + d < n
  · rw [Int.emod_eq_of_lt (by omega) h] at e; omega
  · have : (f + d) % n = f + d - n := by
      rw [← Int.sub_emod_right (f + d) n, Int.emod_eq_of_lt (by omega) (by omega)]
    omega
theorem Turn_ok (x n : Int) (hn : n ≤ 2 ^ 40) (h : AH) : FnT Try.prog 71 #[.int .i64 x, .int .i64 n] h (fun v _ => v = .int .i64 (turnI x n)) := by
  refine call_body Try.func71 rfl Try.ntmps71 rfl ?_
  refine xp_seq ?_
  refine xp_region rfl ?_
  refine op_pure (pv_assign (v := .int .i64 _) rfl) ?_
  refine xp_seq ?_
  refine xp_seq ?_
  refine xp_region rfl ?_
  refine op_pure (pv_move (v := .int .i64 _) rfl) ?_
  refine op_pure (pv_of (v := .bool _) rfl) ?_
  refine xp_cond rfl (fun ht => ?_) (fun ht => ?_)
  · skip
    have ht' : n < 2 := of_decide_eq_true ht
    refine xp_seq ?_
    refine xp_region rfl ?_
    refine op_pure (pv_assign (v := .int .i64 _) rfl) ?_
    refine xp_ret ?_
    refine res_list (vs := [_]) Try.results71 ⟨resV_tmp rfl rfl, trivial⟩ fun V => ?_
    exact ⟨(ext_wl V), intE (by rw [turnI, if_pos ht'])⟩
  · skip
    have ht' : ¬ n < 2 := of_decide_eq_false ht
    have h1 : -n < x.tmod n := tmod_gt x (by omega)
    have h2 : x.tmod n < n := Int.tmod_lt_of_pos _ (by omega)
    refine xp_skip ?_
    refine xp_seq ?_
    refine xp_region rfl ?_
    refine op_pure (pv_move (v := .int .i64 _) rfl) ?_
    refine op_pure (pv_move (v := .int .i64 _) rfl) ?_
    refine op_pure (pv_remT rfl rfl (by omega)) ?_
    refine op_pure (pv_move (v := .int .i64 _) rfl) ?_
    refine op_pure (pv_arith rfl (by omega)) ?_
    refine op_pure (pv_move (v := .int .i64 _) rfl) ?_
    refine op_pure (pv_remT rfl rfl (by omega)) ?_
    refine op_pure (pv_assign (v := .int .i64 _) rfl) ?_
    refine xp_ret ?_
    refine res_list (vs := [_]) Try.results71 ⟨resV_tmp rfl rfl, trivial⟩ fun V => ?_
    exact ⟨(ext_wl V), intE (by rw [turnI, if_neg ht'])⟩
/-- A machine that is made of numbers. -/
structure Made (size pins links : Int) (m : MachP) : Prop where
  ok : MOK m
  rs : m.rods ≤ size
  ls : m.levers ≤ size
  bl : m.buttons.length ≤ 3
  pl : (m.pins.length : Int) ≤ pins
  ll : (m.links.length : Int) ≤ links
theorem mem_one {α : Type} {P : α → Prop} {l : List α} {z : α} (h : ∀ x ∈ l, P x) (hz : P z) : ∀ x ∈ l ++ [z], P x := fun x hx => by
  rcases List.mem_append.1 hx with hx | hx
  · exact h x hx
  · simp at hx; subst hx; exact hz
set_option maxHeartbeats 8000000 in
theorem MachineOf_ok (b x : Nat) (size pins links : Int) (hs : 1 ≤ size ∧ size ≤ 6) (hp : 0 ≤ pins ∧ pins ≤ 8) (hl : 0 ≤ links ∧ links ≤ 4) (h : AH) :
    FnM Try.prog (.func (.func 18) #[] ([] : List Value).toArray) [.pointer (some ⟨b, 0, none⟩), .int .i64 size, .int .i64 pins, .int .i64 links] h [some (b, .cells #[.int .u64 (x : Int)] 97 (0, 0))]
    (fun v h' M' => ∃ (x' : Nat) (m : MachP), M' = [some (b, .cells #[.int .u64 (x' : Int)] 97 (0, 0))] ∧ MachV h' m v ∧ Made size pins links m) := by
  refine fnM_body rfl rfl Try.func18 rfl Try.ntmps18 rfl ?_
  refine xp_seq ?_
  refine xp_region rfl ?_
  refine op_alloc (cs := [_, _, _, _, _, _, _, _, _]) rfl rfl fun b8 hb8 => ?_
  refine wp_norm [_, _] rfl ?_
  refine xp_seq ?_
  refine xp_region rfl ?_
  refine op_pure (pv_move (v := .pointer (some ⟨b, 0, none⟩)) rfl) ?_
  refine op_pure (pv_move (v := .int .i64 _) rfl) ?_
  refine op_pure (pv_min rfl rfl) ?_
  refine op_fnMM [] [_] [_] (vs := [.pointer _, .int .i64 _, .int .i64 _]) rfl rfl rfl ((Within_ok b x 1 (min size 6) (by omega) (by omega) (by omega) h)) ?_
  rintro _ h1 _ E1 ⟨x1, r, rfl, rfl, r1, r2⟩
  refine wp_norm [_, _] rfl ?_
  refine op_pure (pv_move (v := .pointer (some ⟨b, 0, none⟩)) rfl) ?_
  refine op_pure (pv_move (v := .int .i64 _) rfl) ?_
  refine op_pure (pv_min rfl rfl) ?_
  refine op_fnMM [] [_] [_] (vs := [.pointer _, .int .i64 _, .int .i64 _]) rfl rfl rfl ((Within_ok b x1 1 (min size 6) (by omega) (by omega) (by omega) h1)) ?_
  rintro _ h2 _ E2 ⟨x2, v, rfl, rfl, v1, v2⟩
  refine wp_norm [_, _] rfl ?_
  refine op_pure (pv_move (v := .pointer (some ⟨b, 0, none⟩)) rfl) ?_
  refine op_fnMM [] [_] [_] (vs := [.pointer _, .int .i64 _]) rfl rfl rfl ((Upto_ok b x2 2 (by omega) h2)) ?_
  rintro _ h3 _ E3 ⟨x3, g, rfl, rfl, g1, g2⟩
  refine wp_norm [_, _] rfl ?_
  refine op_pure (pv_move (v := .pointer (some ⟨b, 0, none⟩)) rfl) ?_
  refine op_fnMM [] [_] [_] (vs := [.pointer _, .int .i64 _, .int .i64 _]) rfl rfl rfl ((Within_ok b x3 2 12 (by omega) (by omega) (by omega) h3)) ?_
  rintro _ h4 _ E4 ⟨x4, t, rfl, rfl, t1, t2⟩
  refine wp_norm [_, _] rfl ?_
  refine op_pure (pv_build (zc := [_, _, _, _, _, _, _, _, _]) (vs := [(0, .int .i64 _), (1, .int .i64 _), (2, .int .i64 _), (3, .int .i64 _)]) (cs := [_, _, _, _, _, _, _, _, _]) rfl rfl rfl rfl rfl rfl) ?_
  refine op_alloc (cs := [_, _, _, _, _, _, _, _, _]) rfl rfl fun b9 hb9 => ?_
  refine wp_norm [_, _, _] rfl ?_
  refine op_storeP 2 (v := .agg #[.int .i64 _, .int .i64 _, .int .i64 _, .int .i64 _, .int .i64 _, .slice _ _ _, .slice _ _ _, .slice _ _ _, .slice _ _ _]) (vs := [_, _, _, _, _, _, _, _, _]) (c' := [_, _, _, _, _, _, _, _, _]) rfl rfl rfl rfl rfl rfl rfl rfl rfl ?_
  refine wp_norm [_, _, _] rfl ?_
  refine xp_seq ?_
  refine xp_region rfl ?_
  refine op_pure (pv_move (v := .pointer (some ⟨b, 0, none⟩)) rfl) ?_
  refine op_pure (pv_fieldAddr rfl rfl rfl rfl 3 rfl) ?_
  refine op_loadP 2 (v := .int .i64 _) rfl rfl rfl rfl ?_
  refine op_pure (pv_quoT (c := t / 3) rfl rfl (by omega) (Int.tdiv_eq_ediv_of_nonneg (by omega)) (by omega)) ?_
  refine op_pure (pv_max rfl rfl) ?_
  refine op_fnMM [] [_] [_, _] (vs := [.pointer _, .int .i64 _, .int .i64 _]) rfl rfl rfl ((Within_ok b x4 1 (max 1 (t / 3)) (by omega) (by omega) (by omega) h4)) ?_
  rintro _ h5 _ E5 ⟨x5, o, rfl, rfl, o1, o2⟩
  refine wp_norm [_, _, _] rfl ?_
  refine op_pure (pv_fieldAddr rfl rfl rfl rfl 4 rfl) ?_
  refine op_storeP 2 (v := .int .i64 _) (vs := [_]) (c' := [_, _, _, _, _, _, _, _, _]) rfl rfl rfl rfl rfl rfl rfl rfl rfl ?_
  refine wp_norm [_, _, _] rfl ?_
  refine goes_more ?_
  refine goes_norm [_, _, _, _] rfl ?_
  refine goes_more ?_
  refine goes_norm [_, _, _, _, _] rfl ?_
  refine goes_more ?_
  refine goes_norm [_, _, _, _, _, _] rfl ?_
  refine goes_more ?_
  refine goes_norm [_, _, _, _, _, _, _] rfl ?_
  refine xp_seq ?_
  refine xp_seq ?_
  refine xp_region rfl ?_
  refine op_pure (pv_move (v := .pointer (some ⟨b, 0, none⟩)) rfl) ?_
  refine op_fnMM [] [_] [_, _, _, _, _, _] (vs := [.pointer _, .int .i64 _]) rfl rfl rfl ((Upto_ok b x5 3 (by omega) h5)) ?_
  rintro _ h6 _ E6 ⟨x6, i0, rfl, rfl, i01, i02⟩
  refine wp_norm [_, _, _, _, _, _, _] rfl ?_
  refine op_pure (pv_assign (v := .int .i64 _) rfl) ?_
  refine xp_block ?_
  refine xp_loopL [10, 37, 38, 39, 40, 41, 42, 43, 44, 45, 46, 47, 48, 49, 50] 7 (α := Int × Nat × List Int × Acc) (fun ⟨i, y, bs, a⟩ => [(10, .int .i64 i)]) (fun ⟨i, y, bs, a⟩ L => ((L.set 0 (some (b, .cells #[.int .u64 (y : Int)] 97 (0, 0)))).set 2 (some (b9, .cells #[.int .i64 r, .int .i64 v, .int .i64 g, .int .i64 t, .int .i64 o, .slice a.A a.n a.c, .slice none 0 0, .slice none 0 0, .slice none 0 0] 28 (0, 0)))).set 3 (a.p)) (fun ⟨i, y, bs, a⟩ h_i => (0 ≤ i ∧ i + bs.length ≤ 3) ∧ (∀ z ∈ bs, 0 ≤ z ∧ z < r) ∧ AccR 3 1 (bs.flatMap intC) a) (fun ⟨i, y, bs, a⟩ => i.toNat) ((i0, x6, [], acc0)) ⟨rfl, trivial⟩ (rfl) (⟨⟨by omega, by simp; omega⟩, fun _ hz => absurd hz List.not_mem_nil, accR0⟩) ?_
  rintro ⟨i, y, bs, a⟩ T1 h_i E_i J_i
  refine goes_norm [_, _, _, _, _, _, _] rfl ?_
  obtain ⟨⟨K1, K2⟩, K3, KA⟩ := J_i
  refine xp_seq ?_
  refine xp_seq ?_
  refine xp_region rfl ?_
  refine op_pure (pv_move (v := .int .i64 _) rfl) ?_
  refine op_pure (pv_of (v := .bool _) rfl) ?_
  refine xp_cond rfl (fun ht => ?_) (fun ht => ?_)
  · skip
    have hi : 0 < i := of_decide_eq_true ht
    refine xp_skip ?_
    refine xp_seq ?_
    refine xp_block ?_
    refine xp_dw [true, false, false, false, false, false, false] rfl rfl rfl ?_
    refine dw_pure (i := 0) rfl (by decide +kernel) (pv_fieldAddr rfl rfl rfl rfl 5 rfl) ?_
    refine dw_load (i := 1) rfl (by decide +kernel) ?_
    refine op_loadP 2 (v := .slice _ _ _) rfl rfl rfl rfl ?_
    refine dw_pure (i := 2) rfl (by decide +kernel) (pv_move (v := .pointer (some ⟨b, 0, none⟩)) rfl) ?_
    refine dw_pure (i := 3) rfl (by decide +kernel) (pv_fieldAddr rfl rfl rfl rfl 0 rfl) ?_
    refine dw_load (i := 4) rfl (by decide +kernel) ?_
    refine op_loadP 2 (v := .int .i64 _) rfl rfl rfl rfl ?_
    refine dw_pure (i := 5) rfl (by decide +kernel) (pv_arith rfl (by omega)) ?_
    refine dw_eff (i := 6) rfl (by decide +kernel) ?_
    refine op_fnMM [] [_] [_, _, _, _, _, _] (vs := [.pointer _, .int .i64 _]) rfl rfl rfl ((Upto_ok b y (r - 1) (by omega) h_i)) ?_
    rintro _ h7 _ E7 ⟨y2, z, rfl, rfl, z1, z2⟩
    refine ⟨ext_wlm E7 _, ?_⟩
    refine dw_norm [_, _, _, _, _, _, _] rfl ?_
    refine dw_eff (i := 7) rfl (by decide +kernel) ?_
    refine op_buildSlice (zc := [_]) (vs := [(0, .int .i64 _)]) (cs := [_]) rfl rfl rfl rfl rfl rfl rfl fun b48 hb48 => ?_
    refine ⟨ext_newM hb48 _, ?_⟩
    refine dw_norm [_, _, _, _, _, _, _, _] rfl ?_
    refine dw_last (i := 8) rfl (by decide +kernel) (by decide +kernel) ?_
    refine op_appendR 3 KA rfl rfl rfl (fun V => rdP V (i := 7) rfl) rfl rfl rfl rfl rfl rfl rfl rfl rfl (by omega) rfl (by rw [flat_len (m := 1) (fun _ _ => rfl)]; simp; omega) fun a2 h2a E2a ha2 => ?_
    refine dw_norm [_, _, _, _, _, _, _, _] rfl ?_
    refine dw_pure (i := 9) rfl (by decide +kernel) (pv_fieldAddr rfl rfl rfl rfl 5 rfl) ?_
    refine dw_last (i := 10) rfl (by decide +kernel) (by decide +kernel) ?_
    refine op_storeP 2 (v := .slice _ _ _) (vs := [_]) (c' := [_, _, _, _, _, _, _, _, _]) rfl rfl rfl rfl rfl rfl rfl rfl rfl ?_
    refine dw_norm [_, _, _, _, _, _, _, _] rfl ?_
    refine dw_end rfl ?_
    refine xp_region rfl ?_
    refine op_pure (pv_move (v := .int .i64 _) rfl) ?_
    refine op_pure (pv_arith rfl (by omega)) ?_
    refine op_pure (pv_assign (v := .int .i64 _) rfl) ?_
    refine ⟨(i - 1, y2, bs ++ [z], a2), ⟨rfl, trivial⟩, rfl, rfl, (Ext.trans (Ext.trans E_i E7) E2a), fun h3 E3 => ⟨⟨by omega, by simp; omega⟩, mem_one K3 ⟨z1, by omega⟩, by rw [List.flatMap_append]; exact ha2⟩, by first | omega | (dsimp only; omega), ?_⟩
    repeat (first | exact off_base _ _ _ | refine off_upd (by decide) ?_ | refine off_updL rfl ?_ | refine off_mix rfl ?_)
  · skip
    have hi0 : i = 0 := by have := of_decide_eq_false ht; omega
    obtain ⟨pB, AB, nB, cB⟩ := a
    obtain rfl : nB = bs.length := by have := AccR.len KA; rw [flat_len (m := 1) (fun _ _ => rfl)] at this; dsimp only at this; omega
    dsimp only at *
    refine goes_pubO 3 rfl ?_
    intro gB GB PB
    refine goes_norm [_, _, _, _, _, _, _] rfl ?_
    have RB : Row gB 1 intC AB bs := ⟨fun _ _ => rfl, AccR.rd KA PB⟩
    refine xp_exit ?_
    refine xp_seq ?_
    refine xp_seq ?_
    refine xp_region rfl ?_
    refine op_pure (pv_move (v := .pointer (some ⟨b, 0, none⟩)) rfl) ?_
    refine op_pure (pv_move (v := .int .i64 _) rfl) ?_
    refine op_fnMM [] [_] [_, _, _, _, _, _] (vs := [.pointer _, .int .i64 _]) rfl rfl rfl ((Upto_ok b y pins (by omega) gB)) ?_
    rintro _ h8 _ E8 ⟨x8, j0, rfl, rfl, j01, j02⟩
    refine wp_norm [_, _, _, _, _, _, _] rfl ?_
    refine op_pure (pv_assign (v := .int .i64 _) rfl) ?_
    refine xp_block ?_
    refine xp_loopL [11, 54, 55, 56, 57, 58, 59, 60, 61, 62, 63, 64, 65, 66, 67, 68, 69, 70, 71, 72, 73, 74, 75, 76, 77, 78] 7 (α := Int × Nat × List PinP × Acc) (fun ⟨j, y, qs, a⟩ => [(11, .int .i64 j)]) (fun ⟨j, y, qs, a⟩ L => ((L.set 0 (some (b, .cells #[.int .u64 (y : Int)] 97 (0, 0)))).set 2 (some (b9, .cells #[.int .i64 r, .int .i64 v, .int .i64 g, .int .i64 t, .int .i64 o, .slice AB bs.length cB, .slice a.A a.n a.c, .slice none 0 0, .slice none 0 0] 28 (0, 0)))).set 4 (a.p)) (fun ⟨j, y, qs, a⟩ h_j => (0 ≤ j ∧ j + qs.length ≤ pins) ∧ (∀ p ∈ qs, (0 ≤ p.rod ∧ p.rod < r) ∧ (0 ≤ p.lever ∧ p.lever < v) ∧ (0 ≤ p.lag ∧ p.lag ≤ t)) ∧ AccR 36 3 (qs.flatMap pinC) a) (fun ⟨j, y, qs, a⟩ => j.toNat) ((j0, x8, [], acc0)) ⟨rfl, trivial⟩ (rfl) (⟨⟨by omega, by simp; omega⟩, fun _ hz => absurd hz List.not_mem_nil, accR0⟩) ?_
    rintro ⟨j, y, qs, a⟩ T3 h_j E_j J_j
    refine goes_norm [_, _, _, _, _, _, _] rfl ?_
    obtain ⟨⟨L1, L2⟩, L3, KA⟩ := J_j
    refine xp_seq ?_
    refine xp_seq ?_
    refine xp_region rfl ?_
    refine op_pure (pv_move (v := .int .i64 _) rfl) ?_
    refine op_pure (pv_of (v := .bool _) rfl) ?_
    refine xp_cond rfl (fun hu => ?_) (fun hu => ?_)
    · skip
      have hj : 0 < j := of_decide_eq_true hu
      refine xp_skip ?_
      refine xp_seq ?_
      refine xp_block ?_
      refine xp_dw [true, false, false, false, false, false, false] rfl rfl rfl ?_
      refine dw_pure (i := 0) rfl (by decide +kernel) (pv_fieldAddr rfl rfl rfl rfl 6 rfl) ?_
      refine dw_load (i := 1) rfl (by decide +kernel) ?_
      refine op_loadP 2 (v := .slice _ _ _) rfl rfl rfl rfl ?_
      refine dw_pure (i := 2) rfl (by decide +kernel) (pv_move (v := .pointer (some ⟨b, 0, none⟩)) rfl) ?_
      refine dw_pure (i := 3) rfl (by decide +kernel) (pv_fieldAddr rfl rfl rfl rfl 0 rfl) ?_
      refine dw_load (i := 4) rfl (by decide +kernel) ?_
      refine op_loadP 2 (v := .int .i64 _) rfl rfl rfl rfl ?_
      refine dw_pure (i := 5) rfl (by decide +kernel) (pv_arith rfl (by omega)) ?_
      refine dw_pure (i := 7) rfl (by decide +kernel) (pv_move (v := .pointer (some ⟨b, 0, none⟩)) rfl) ?_
      refine dw_pure (i := 8) rfl (by decide +kernel) (pv_fieldAddr rfl rfl rfl rfl 1 rfl) ?_
      refine dw_load (i := 9) rfl (by decide +kernel) ?_
      refine op_loadP 2 (v := .int .i64 _) rfl rfl rfl rfl ?_
      refine dw_pure (i := 10) rfl (by decide +kernel) (pv_arith rfl (by omega)) ?_
      refine dw_pure (i := 12) rfl (by decide +kernel) (pv_move (v := .pointer (some ⟨b, 0, none⟩)) rfl) ?_
      refine dw_pure (i := 13) rfl (by decide +kernel) (pv_fieldAddr rfl rfl rfl rfl 3 rfl) ?_
      refine dw_load (i := 14) rfl (by decide +kernel) ?_
      refine op_loadP 2 (v := .int .i64 _) rfl rfl rfl rfl ?_
      refine dw_pure (i := 15) rfl (by decide +kernel) (pv_quoT (c := t / 2) rfl rfl (by omega) (Int.tdiv_eq_ediv_of_nonneg (by omega)) (by omega)) ?_
      refine dw_eff (i := 6) rfl (by decide +kernel) ?_
      refine op_fnMM [] [_] [_, _, _, _, _, _] (vs := [.pointer _, .int .i64 _]) rfl rfl rfl ((Upto_ok b y (r - 1) (by omega) h_j)) ?_
      rintro _ h9 _ E9 ⟨y2, z, rfl, rfl, z1, z2⟩
      refine ⟨ext_wlm E9 _, ?_⟩
      refine dw_norm [_, _, _, _, _, _, _] rfl ?_
      refine dw_eff (i := 11) rfl (by decide +kernel) ?_
      refine op_fnMM [] [_] [_, _, _, _, _, _] (vs := [.pointer _, .int .i64 _]) rfl rfl rfl ((Upto_ok b y2 (v - 1) (by omega) h9)) ?_
      rintro _ h10 _ E10 ⟨y3, w, rfl, rfl, w1, w2⟩
      refine ⟨ext_wlm E10 _, ?_⟩
      refine dw_norm [_, _, _, _, _, _, _] rfl ?_
      refine dw_eff (i := 16) rfl (by decide +kernel) ?_
      refine op_fnMM [] [_] [_, _, _, _, _, _] (vs := [.pointer _, .int .i64 _]) rfl rfl rfl ((Upto_ok b y3 (t / 2) (by omega) h10)) ?_
      rintro _ h11 _ E11 ⟨y4, e, rfl, rfl, e1, e2⟩
      refine ⟨ext_wlm E11 _, ?_⟩
      refine dw_norm [_, _, _, _, _, _, _] rfl ?_
      refine dw_pure (i := 17) rfl (by decide +kernel) (pv_build (zc := [_, _, _]) (vs := [(0, .int .i64 _), (1, .int .i64 _), (2, .int .i64 _)]) (cs := [_, _, _]) rfl rfl rfl rfl rfl rfl) ?_
      refine dw_eff (i := 18) rfl (by decide +kernel) ?_
      refine op_buildSlice (zc := [_, _, _]) (vs := [(0, .agg #[.int .i64 _, .int .i64 _, .int .i64 _])]) (cs := [_, _, _]) rfl rfl rfl rfl rfl rfl rfl fun b76 hb76 => ?_
      refine ⟨ext_newM hb76 _, ?_⟩
      refine dw_norm [_, _, _, _, _, _, _, _] rfl ?_
      refine dw_last (i := 19) rfl (by decide +kernel) (by decide +kernel) ?_
      refine op_appendR 4 KA rfl rfl rfl (fun V => rdP V (i := 7) rfl) rfl rfl rfl rfl rfl rfl rfl rfl rfl (by omega) rfl (by rw [flat_len (m := 3) (fun _ _ => rfl)]; simp; omega) fun a2 h4a E4a ha2 => ?_
      refine dw_norm [_, _, _, _, _, _, _, _] rfl ?_
      refine dw_pure (i := 20) rfl (by decide +kernel) (pv_fieldAddr rfl rfl rfl rfl 6 rfl) ?_
      refine dw_last (i := 21) rfl (by decide +kernel) (by decide +kernel) ?_
      refine op_storeP 2 (v := .slice _ _ _) (vs := [_]) (c' := [_, _, _, _, _, _, _, _, _]) rfl rfl rfl rfl rfl rfl rfl rfl rfl ?_
      refine dw_norm [_, _, _, _, _, _, _, _] rfl ?_
      refine dw_end rfl ?_
      refine xp_region rfl ?_
      refine op_pure (pv_move (v := .int .i64 _) rfl) ?_
      refine op_pure (pv_arith rfl (by omega)) ?_
      refine op_pure (pv_assign (v := .int .i64 _) rfl) ?_
      refine ⟨(j - 1, y4, qs ++ [⟨z, w, e⟩], a2), ⟨rfl, trivial⟩, rfl, rfl, (Ext.trans (Ext.trans (Ext.trans (Ext.trans E_j E9) E10) E11) E4a), fun h3 E3 => ⟨⟨by omega, by simp; omega⟩, mem_one L3 ⟨⟨z1, by show z < r; omega⟩, ⟨w1, by show w < v; omega⟩, ⟨e1, by show e ≤ t; omega⟩⟩, by rw [List.flatMap_append]; exact ha2⟩, by first | omega | (dsimp only; omega), ?_⟩
      repeat (first | exact off_base _ _ _ | refine off_upd (by decide) ?_ | refine off_updL rfl ?_ | refine off_mix rfl ?_)
    · skip
      have hj0 : j = 0 := by have := of_decide_eq_false hu; omega
      obtain ⟨pP, AQ, nP, cQ⟩ := a
      obtain rfl : nP = qs.length := by have := AccR.len KA; rw [flat_len (m := 3) (fun _ _ => rfl)] at this; dsimp only at this; omega
      dsimp only at *
      refine goes_pubO 4 rfl ?_
      intro gP GP PP
      refine goes_norm [_, _, _, _, _, _, _] rfl ?_
      have RP : Row gP 3 pinC AQ qs := ⟨fun _ _ => rfl, AccR.rd KA PP⟩
      refine xp_exit ?_
      refine xp_cutB [12, 13, 79, 80, 81, 82, 83, 84, 85, 86, 87, 88, 89, 90, 91, 92, 93, 94, 95, 96, 97, 98, 99, 100, 101, 102, 103, 104, 105, 106, 107, 108, 109, 110, 111, 112, 113, 114, 115, 116, 117, 118, 119, 120, 121, 122, 123, 124, 125] 7 (α := Nat × List LinkP × Acc) (fun ⟨y, ls, a⟩ => []) (fun ⟨y, ls, a⟩ L => ((L.set 0 (some (b, .cells #[.int .u64 (y : Int)] 97 (0, 0)))).set 2 (some (b9, .cells #[.int .i64 r, .int .i64 v, .int .i64 g, .int .i64 t, .int .i64 o, .slice AB bs.length cB, .slice AQ qs.length cQ, .slice a.A a.n a.c, .slice none 0 0] 28 (0, 0)))).set 5 (a.p)) (fun ⟨y, ls, a⟩ h_y => (ls.length : Int) ≤ links ∧ (∀ p ∈ ls, (0 ≤ p.frm ∧ p.frm < r) ∧ (0 ≤ p.to ∧ p.to < r) ∧ p.frm ≠ p.to ∧ (-1 ≤ p.reg ∧ p.reg < g) ∧ (1 ≤ p.lag ∧ p.lag ≤ t)) ∧ AccR 39 4 (ls.flatMap linkC) a) ?_ ?_
      · skip
        refine xp_seq ?_
        refine xp_region rfl ?_
        refine op_pure (pv_move (v := .pointer (some ⟨b, 0, none⟩)) rfl) ?_
        refine op_pure (pv_move (v := .int .i64 _) rfl) ?_
        refine op_fnMM [] [_] [_, _, _, _, _, _] (vs := [.pointer _, .int .i64 _]) rfl rfl rfl ((Upto_ok b y links (by omega) gP)) ?_
        rintro _ h12 _ E12 ⟨x12, k0, rfl, rfl, k01, k02⟩
        refine wp_norm [_, _, _, _, _, _, _] rfl ?_
        refine op_pure (pv_assign (v := .int .i64 _) rfl) ?_
        refine xp_block ?_
        refine xp_loopL [12, 13, 82, 83, 84, 85, 86, 87, 88, 89, 90, 91, 92, 93, 94, 95, 96, 97, 98, 99, 100, 101, 102, 103, 104, 105, 106, 107, 108, 109, 110, 111, 112, 113, 114, 115, 116, 117, 118, 119, 120, 121, 122, 123, 124, 125] 7 (α := Int × Nat × List LinkP × Acc) (fun ⟨k, y, ls, a⟩ => [(12, .int .i64 k)]) (fun ⟨k, y, ls, a⟩ L => ((L.set 0 (some (b, .cells #[.int .u64 (y : Int)] 97 (0, 0)))).set 2 (some (b9, .cells #[.int .i64 r, .int .i64 v, .int .i64 g, .int .i64 t, .int .i64 o, .slice AB bs.length cB, .slice AQ qs.length cQ, .slice a.A a.n a.c, .slice none 0 0] 28 (0, 0)))).set 5 (a.p)) (fun ⟨k, y, ls, a⟩ h_k => (0 ≤ k ∧ k + ls.length ≤ links) ∧ (∀ p ∈ ls, (0 ≤ p.frm ∧ p.frm < r) ∧ (0 ≤ p.to ∧ p.to < r) ∧ p.frm ≠ p.to ∧ (-1 ≤ p.reg ∧ p.reg < g) ∧ (1 ≤ p.lag ∧ p.lag ≤ t)) ∧ AccR 39 4 (ls.flatMap linkC) a) (fun ⟨k, y, ls, a⟩ => k.toNat) ((k0, x12, [], acc0)) ⟨rfl, trivial⟩ (rfl) (⟨⟨by omega, by simp; omega⟩, fun _ hz => absurd hz List.not_mem_nil, accR0⟩) ?_
        rintro ⟨k, y, ls, a⟩ T6 h_k E_k J_k
        refine goes_norm [_, _, _, _, _, _, _] rfl ?_
        obtain ⟨⟨N1, N2⟩, N3, KA⟩ := J_k
        refine xp_seq ?_
        refine xp_seq ?_
        refine xp_region rfl ?_
        refine op_pure (pv_move (v := .int .i64 _) rfl) ?_
        refine op_pure (pv_of (v := .bool _) rfl) ?_
        refine op_pure (pv_move (v := .bool _) rfl) ?_
        rcases Bool.eq_false_or_eq_true (decide (k > 0)) with hk | hk
        · skip
          have hk0 : k > 0 := of_decide_eq_true hk
          refine guard_yes rfl hk ?_
          refine op_pure (pv_fieldAddr rfl rfl rfl rfl 0 rfl) ?_
          refine guard_yes rfl hk ?_
          refine op_loadP 2 (v := .int .i64 _) rfl rfl rfl rfl ?_
          refine guard_yes rfl hk ?_
          refine op_pure (pv_of (v := .bool _) rfl) ?_
          refine op_pure (pv_pickT rfl hk (v := .bool _) rfl) ?_
          refine xp_cond rfl (fun hr => ?_) (fun hr => ?_)
          · skip
            have hr1 : r > 1 := of_decide_eq_true hr
            refine xp_skip ?_
            refine xp_seq ?_
            refine xp_block ?_
            refine xp_seq ?_
            refine xp_dw [true, false, false, false, false, false, false] rfl rfl rfl ?_
            refine dw_pure (i := 0) rfl (by decide +kernel) (pv_move (v := .pointer (some ⟨b, 0, none⟩)) rfl) ?_
            refine dw_pure (i := 1) rfl (by decide +kernel) (pv_fieldAddr rfl rfl rfl rfl 0 rfl) ?_
            refine dw_load (i := 2) rfl (by decide +kernel) ?_
            refine op_loadP 2 (v := .int .i64 _) rfl rfl rfl rfl ?_
            refine dw_pure (i := 3) rfl (by decide +kernel) (pv_arith rfl (by omega)) ?_
            refine dw_pure (i := 5) rfl (by decide +kernel) (pv_move (v := .pointer (some ⟨b, 0, none⟩)) rfl) ?_
            refine dw_pure (i := 6) rfl (by decide +kernel) (pv_fieldAddr rfl rfl rfl rfl 2 rfl) ?_
            refine dw_load (i := 7) rfl (by decide +kernel) ?_
            refine op_loadP 2 (v := .int .i64 _) rfl rfl rfl rfl ?_
            refine dw_pure (i := 8) rfl (by decide +kernel) (pv_arith rfl (by omega)) ?_
            refine dw_pure (i := 10) rfl (by decide +kernel) (pv_move (v := .pointer (some ⟨b, 0, none⟩)) rfl) ?_
            refine dw_pure (i := 11) rfl (by decide +kernel) (pv_fieldAddr rfl rfl rfl rfl 3 rfl) ?_
            refine dw_load (i := 12) rfl (by decide +kernel) ?_
            refine op_loadP 2 (v := .int .i64 _) rfl rfl rfl rfl ?_
            refine dw_pure (i := 13) rfl (by decide +kernel) (pv_quoT (c := t / 3) rfl rfl (by omega) (Int.tdiv_eq_ediv_of_nonneg (by omega)) (by omega)) ?_
            refine dw_pure (i := 14) rfl (by decide +kernel) (pv_max rfl rfl) ?_
            refine dw_eff (i := 4) rfl (by decide +kernel) ?_
            refine op_fnMM [] [_] [_, _, _, _, _, _] (vs := [.pointer _, .int .i64 _]) rfl rfl rfl ((Upto_ok b y (r - 1) (by omega) h_k)) ?_
            rintro _ h13 _ E13 ⟨y2, z, rfl, rfl, z1, z2⟩
            refine ⟨ext_wlm E13 _, ?_⟩
            refine dw_norm [_, _, _, _, _, _, _] rfl ?_
            refine dw_eff (i := 9) rfl (by decide +kernel) ?_
            refine op_fnMM [] [_] [_, _, _, _, _, _] (vs := [.pointer _, .int .i64 _, .int .i64 _]) rfl rfl rfl ((Within_ok b y2 (-1) (g - 1) (by omega) (by omega) (by omega) h13)) ?_
            rintro _ h14 _ E14 ⟨y3, e, rfl, rfl, e1, e2⟩
            refine ⟨ext_wlm E14 _, ?_⟩
            refine dw_norm [_, _, _, _, _, _, _] rfl ?_
            refine dw_last (i := 15) rfl (by decide +kernel) (by decide +kernel) ?_
            refine op_fnMM [] [_] [_, _, _, _, _, _] (vs := [.pointer _, .int .i64 _, .int .i64 _]) rfl rfl rfl ((Within_ok b y3 1 (max 1 (t / 3)) (by omega) (by omega) (by omega) h14)) ?_
            rintro _ h15 _ E15 ⟨y4, w, rfl, rfl, w1, w2⟩
            refine dw_norm [_, _, _, _, _, _, _] rfl ?_
            refine dw_pure (i := 16) rfl (by decide +kernel) (pv_build (zc := [_, _, _, _]) (vs := [(0, .int .i64 _), (2, .int .i64 _), (3, .int .i64 _)]) (cs := [_, _, _, _]) rfl rfl rfl rfl rfl rfl) ?_
            refine dw_eff (i := 17) rfl (by decide +kernel) ?_
            refine op_alloc (cs := [_, _, _, _]) rfl rfl fun b13 hb13 => ?_
            refine ⟨ext_newM hb13 _, ?_⟩
            refine dw_norm [_, _, _, _, _, _, _, _] rfl ?_
            refine dw_last (i := 18) rfl (by decide +kernel) (by decide +kernel) ?_
            refine op_storeP 7 (v := .agg #[.int .i64 _, .int .i64 _, .int .i64 _, .int .i64 _]) (vs := [_, _, _, _]) (c' := [_, _, _, _]) rfl rfl rfl rfl rfl rfl rfl rfl rfl ?_
            refine dw_norm [_, _, _, _, _, _, _, _] rfl ?_
            refine dw_end rfl ?_
            refine xp_seq ?_
            refine xp_dw [true, false, false, false, false, false, false, false] rfl rfl rfl ?_
            refine dw_pure (i := 0) rfl (by decide +kernel) (pv_fieldAddr rfl rfl rfl rfl 0 rfl) ?_
            refine dw_load (i := 1) rfl (by decide +kernel) ?_
            refine op_loadP 7 (v := .int .i64 _) rfl rfl rfl rfl ?_
            refine dw_pure (i := 2) rfl (by decide +kernel) (pv_move (v := .pointer (some ⟨b, 0, none⟩)) rfl) ?_
            refine dw_pure (i := 3) rfl (by decide +kernel) (pv_fieldAddr rfl rfl rfl rfl 0 rfl) ?_
            refine dw_load (i := 4) rfl (by decide +kernel) ?_
            refine op_loadP 2 (v := .int .i64 _) rfl rfl rfl rfl ?_
            refine dw_pure (i := 5) rfl (by decide +kernel) (pv_arith rfl (by omega)) ?_
            refine dw_pure (i := 8) rfl (by decide +kernel) (pv_fieldAddr rfl rfl rfl rfl 0 rfl) ?_
            refine dw_load (i := 9) rfl (by decide +kernel) ?_
            refine op_loadP 2 (v := .int .i64 _) rfl rfl rfl rfl ?_
            refine dw_eff (i := 6) rfl (by decide +kernel) ?_
            refine op_fnMM [] [_] [_, _, _, _, _, _, _] (vs := [.pointer _, .int .i64 _, .int .i64 _]) rfl rfl rfl ((Within_ok b y4 1 (r - 1) (by omega) (by omega) (by omega) h15)) ?_
            rintro _ h16 _ E16 ⟨y5, d, rfl, rfl, d1, d2⟩
            refine ⟨ext_wlm E16 _, ?_⟩
            refine dw_norm [_, _, _, _, _, _, _, _] rfl ?_
            refine dw_pure (i := 7) rfl (by decide +kernel) (pv_arith rfl (by omega)) ?_
            refine dw_last (i := 10) rfl (by decide +kernel) (by decide +kernel) ?_
            refine op_fn (caps := []) (vs := [.int .i64 _, .int .i64 _]) rfl rfl rfl (Turn_ok (z + d) r (by omega) h16) ?_
            rintro _ h17 E17 rfl
            have tb := turnI_bd (z + d) r
            have tn := turnI_ne (f := z) (d := d) (n := r) (by omega) ⟨z1, by omega⟩ ⟨d1, by omega⟩
            refine dw_pure (i := 11) rfl (by decide +kernel) (pv_fieldAddr rfl rfl rfl rfl 1 rfl) ?_
            refine dw_last (i := 12) rfl (by decide +kernel) (by decide +kernel) ?_
            refine op_storeP 7 (v := .int .i64 _) (vs := [_]) (c' := [_, _, _, _]) rfl rfl rfl rfl rfl rfl rfl rfl rfl ?_
            refine dw_norm [_, _, _, _, _, _, _, _] rfl ?_
            refine dw_end rfl ?_
            refine xp_region rfl ?_
            refine op_pure (pv_fieldAddr rfl rfl rfl rfl 7 rfl) ?_
            refine op_loadP 2 (v := .slice _ _ _) rfl rfl rfl rfl ?_
            refine op_loadPA 7 (vs := [.int .i64 _, .int .i64 _, .int .i64 _, .int .i64 _]) rfl rfl rfl rfl rfl ?_
            refine op_buildSlice (zc := [_, _, _, _]) (vs := [(0, .agg #[.int .i64 _, .int .i64 _, .int .i64 _, .int .i64 _])]) (cs := [_, _, _, _]) rfl rfl rfl rfl rfl rfl rfl fun b123 hb123 => ?_
            refine wp_norm [_, _, _, _, _, _, _, _, _] rfl ?_
            refine op_appendR 5 KA rfl rfl rfl (fun V => rdP V (i := 8) rfl) rfl rfl rfl rfl rfl rfl rfl rfl rfl (by omega) rfl (by rw [flat_len (m := 4) (fun _ _ => rfl)]; simp; omega) fun a2 h7a E7a ha2 => ?_
            refine wp_norm [_, _, _, _, _, _, _, _, _] rfl ?_
            refine op_pure (pv_fieldAddr rfl rfl rfl rfl 7 rfl) ?_
            refine op_storeP 2 (v := .slice _ _ _) (vs := [_]) (c' := [_, _, _, _, _, _, _, _, _]) rfl rfl rfl rfl rfl rfl rfl rfl rfl ?_
            refine wp_norm [_, _, _, _, _, _, _, _, _] rfl ?_
            refine xp_region rfl ?_
            refine op_pure (pv_move (v := .int .i64 _) rfl) ?_
            refine op_pure (pv_arith rfl (by omega)) ?_
            refine op_pure (pv_assign (v := .int .i64 _) rfl) ?_
            refine ⟨(k - 1, y5, ls ++ [⟨z, turnI (z + d) r, e, w⟩], a2), ⟨rfl, trivial⟩, rfl, rfl, (Ext.trans (Ext.trans (Ext.trans (Ext.trans (Ext.trans (Ext.trans E_k E13) E14) E15) E16) E17) E7a), fun h3 E3 => ⟨⟨by omega, by simp; omega⟩, mem_one N3 ⟨⟨z1, by show z < r; omega⟩, ⟨tb.1, tb.2 (by omega)⟩, fun he => tn he.symm, ⟨e1, by show e < g; omega⟩, ⟨w1, by show w ≤ t; omega⟩⟩, by rw [List.flatMap_append]; exact ha2⟩, by first | omega | (dsimp only; omega), ?_⟩
            repeat (first | exact off_base _ _ _ | refine off_upd (by decide) ?_ | refine off_updL rfl ?_ | refine off_mix rfl ?_)
          · skip
            refine xp_exit ?_
            refine ⟨(y, ls, a), trivial, rfl, rfl, (Ext.trans E12 E_k), fun h3 E3 => ⟨by omega, N3, KA⟩, ?_⟩
            repeat (first | exact off_refl _ _ | exact off_base _ _ _ | refine off_upd (by decide) ?_ | refine off_updL rfl ?_ | refine off_mix rfl ?_)
        · skip
          have hk0 : k = 0 := by have := of_decide_eq_false hk; omega
          refine guard_no rfl hk ?_
          refine guard_no rfl hk ?_
          refine guard_no rfl hk ?_
          refine op_pure (pv_pickF rfl hk (v := .bool _) rfl) ?_
          refine xp_condF rfl (rfl) ?_
          refine xp_exit ?_
          refine ⟨(y, ls, a), trivial, rfl, rfl, (Ext.trans E12 E_k), fun h3 E3 => ⟨by omega, N3, KA⟩, ?_⟩
          repeat (first | exact off_refl _ _ | exact off_base _ _ _ | refine off_upd (by decide) ?_ | refine off_updL rfl ?_ | refine off_mix rfl ?_)
      · rintro ⟨y, ls, a⟩ T5 h_y E_y J_y
        refine goes_norm [_, _, _, _, _, _, _] rfl ?_
        obtain ⟨N1, N3, KA⟩ := J_y
        obtain ⟨pL, AL, nL, cL⟩ := a
        obtain rfl : nL = ls.length := by have := AccR.len KA; rw [flat_len (m := 4) (fun _ _ => rfl)] at this; dsimp only at this; omega
        dsimp only at *
        refine goes_pubO 5 rfl ?_
        intro gL GL PL
        refine goes_norm [_, _, _, _, _, _, _] rfl ?_
        have RL : Row gL 4 linkC AL ls := ⟨fun _ _ => rfl, AccR.rd KA PL⟩
        refine xp_seq ?_
        refine xp_seq ?_
        refine xp_region rfl ?_
        refine op_pure (pv_assign (v := .int .i64 _) rfl) ?_
        refine xp_block ?_
        refine xp_loopL [14, 126, 127, 128, 129, 130, 131, 132, 133, 134, 135, 136, 137, 138] 7 (α := Nat × Nat × List Int × Acc) (fun ⟨k, y, ws, a⟩ => [(14, .int .i64 k)]) (fun ⟨k, y, ws, a⟩ L => ((L.set 0 (some (b, .cells #[.int .u64 (y : Int)] 97 (0, 0)))).set 2 (some (b9, .cells #[.int .i64 r, .int .i64 v, .int .i64 g, .int .i64 t, .int .i64 o, .slice AB bs.length cB, .slice AQ qs.length cQ, .slice AL ls.length cL, .slice a.A a.n a.c] 28 (0, 0)))).set 6 (a.p)) (fun ⟨k, y, ws, a⟩ h_k => (k ≤ v.toNat ∧ ws.length = k) ∧ (∀ z ∈ ws, 0 ≤ z ∧ z ≤ 50) ∧ AccR 3 1 (ws.flatMap intC) a) (fun ⟨k, y, ws, a⟩ => v.toNat - k) ((0, y, [], acc0)) ⟨rfl, trivial⟩ (rfl) (⟨⟨by omega, rfl⟩, fun _ hz => absurd hz List.not_mem_nil, accR0⟩) ?_
        rintro ⟨k, y, ws, a⟩ T8 h_k E_k J_k
        refine goes_norm [_, _, _, _, _, _, _] rfl ?_
        obtain ⟨⟨M1, M2⟩, M3, KA⟩ := J_k
        refine xp_seq ?_
        refine xp_seq ?_
        refine xp_region rfl ?_
        refine op_pure (pv_move (v := .int .i64 _) rfl) ?_
        refine op_pure (pv_fieldAddr rfl rfl rfl rfl 1 rfl) ?_
        refine op_loadP 2 (v := .int .i64 _) rfl rfl rfl rfl ?_
        refine op_pure (pv_of (v := .bool _) rfl) ?_
        refine xp_cond rfl (fun hw => ?_) (fun hw => ?_)
        · skip
          have hkv : (k : Int) < v := of_decide_eq_true hw
          refine xp_skip ?_
          refine xp_seq ?_
          refine xp_block ?_
          refine xp_dw [true, false, false, false, false, false, false] rfl rfl rfl ?_
          refine dw_pure (i := 0) rfl (by decide +kernel) (pv_fieldAddr rfl rfl rfl rfl 8 rfl) ?_
          refine dw_load (i := 1) rfl (by decide +kernel) ?_
          refine op_loadP 2 (v := .slice _ _ _) rfl rfl rfl rfl ?_
          refine dw_pure (i := 2) rfl (by decide +kernel) (pv_move (v := .pointer (some ⟨b, 0, none⟩)) rfl) ?_
          refine dw_eff (i := 3) rfl (by decide +kernel) ?_
          refine op_fnMM [] [_] [_, _, _, _, _, _] (vs := [.pointer _, .int .i64 _]) rfl rfl rfl ((Upto_ok b y 9 (by omega) h_k)) ?_
          rintro _ h18 _ E18 ⟨y2, z, rfl, rfl, z1, z2⟩
          refine ⟨ext_wlm E18 _, ?_⟩
          refine dw_norm [_, _, _, _, _, _, _] rfl ?_
          refine dw_eff (i := 4) rfl (by decide +kernel) ?_
          refine op_buildSlice (zc := [_]) (vs := [(0, .int .i64 _)]) (cs := [_]) rfl rfl rfl rfl rfl rfl rfl fun b136 hb136 => ?_
          refine ⟨ext_newM hb136 _, ?_⟩
          refine dw_norm [_, _, _, _, _, _, _, _] rfl ?_
          refine dw_last (i := 5) rfl (by decide +kernel) (by decide +kernel) ?_
          refine op_appendR 6 KA rfl rfl rfl (fun V => rdP V (i := 7) rfl) rfl rfl rfl rfl rfl rfl rfl rfl rfl (by omega) rfl (by rw [flat_len (m := 1) (fun _ _ => rfl)]; simp; omega) fun a2 h9a E9a ha2 => ?_
          refine dw_norm [_, _, _, _, _, _, _, _] rfl ?_
          refine dw_pure (i := 6) rfl (by decide +kernel) (pv_fieldAddr rfl rfl rfl rfl 8 rfl) ?_
          refine dw_last (i := 7) rfl (by decide +kernel) (by decide +kernel) ?_
          refine op_storeP 2 (v := .slice _ _ _) (vs := [_]) (c' := [_, _, _, _, _, _, _, _, _]) rfl rfl rfl rfl rfl rfl rfl rfl rfl ?_
          refine dw_norm [_, _, _, _, _, _, _, _] rfl ?_
          refine dw_end rfl ?_
          refine xp_region rfl ?_
          refine op_pure (pv_move (v := .int .i64 _) rfl) ?_
          refine op_pure (pv_arith rfl (by omega)) ?_
          refine op_pure (pv_assign (v := .int .i64 _) rfl) ?_
          refine ⟨(k + 1, y2, ws ++ [z], a2), ⟨rfl, trivial⟩, rfl, rfl, (Ext.trans (Ext.trans E_k E18) E9a), fun h3 E3 => ⟨⟨by omega, by simp; omega⟩, mem_one M3 ⟨z1, by omega⟩, by rw [List.flatMap_append]; exact ha2⟩, by first | omega | (dsimp only; omega), ?_⟩
          repeat (first | exact off_base _ _ _ | refine off_upd (by decide) ?_ | refine off_updL rfl ?_ | refine off_mix rfl ?_)
        · skip
          have hkv : (k : Int) = v := by have := of_decide_eq_false hw; omega
          obtain ⟨pW, AW, nW, cW⟩ := a
          obtain rfl : nW = ws.length := by have := AccR.len KA; rw [flat_len (m := 1) (fun _ _ => rfl)] at this; dsimp only at this; omega
          dsimp only at *
          refine goes_pubO 6 rfl ?_
          intro gW GW PW
          refine goes_norm [_, _, _, _, _, _, _] rfl ?_
          have RW : Row gW 1 intC AW ws := ⟨fun _ _ => rfl, AccR.rd KA PW⟩
          refine xp_exit ?_
          refine xp_seq ?_
          refine xp_region rfl ?_
          refine op_loadPA 2 (vs := [.int .i64 _, .int .i64 _, .int .i64 _, .int .i64 _, .int .i64 _, .slice _ _ _, .slice _ _ _, .slice _ _ _, .slice _ _ _]) rfl rfl rfl rfl rfl ?_
          refine op_storeP 1 (v := .agg #[.int .i64 _, .int .i64 _, .int .i64 _, .int .i64 _, .int .i64 _, .slice _ _ _, .slice _ _ _, .slice _ _ _, .slice _ _ _]) (vs := [_, _, _, _, _, _, _, _, _]) (c' := [_, _, _, _, _, _, _, _, _]) rfl rfl rfl rfl rfl rfl rfl rfl rfl ?_
          refine wp_norm [_, _, _, _, _, _, _] rfl ?_
          refine xp_ret ?_
          refine res_list (vs := [_]) Try.results18 ⟨resV_agg 1 rfl rfl rfl rfl rfl (vs := [.int .i64 _, .int .i64 _, .int .i64 _, .int .i64 _, .int .i64 _, .slice _ _ _, .slice _ _ _, .slice _ _ _, .slice _ _ _]) rfl, trivial⟩ fun V => ?_
          obtain ⟨h9, E9, e9, V9⟩ := wl_drop [_, _, _, _, _, _] [_] V
          have RB9 := (RB.ext (Ext.trans (Ext.trans (Ext.trans (Ext.trans (Ext.trans (Ext.trans E8 E_j) GP) E_y) GL) E_k) GW)).ext E9
          refine ⟨h9, _, e9, V9, Ext.trans (Ext.trans (Ext.trans (Ext.trans (Ext.trans (Ext.trans (Ext.trans (Ext.trans (Ext.trans (Ext.trans (Ext.trans (Ext.trans (Ext.trans (Ext.trans (Ext.trans E1 E2) E3) E4) E5) E6) E_i) GB) E8) E_j) GP) E_y) GL) E_k) GW) E9, y, ⟨r, v, g, t, o, bs, qs, ls, ws⟩, rfl, ⟨.slice AB bs.length cB, .slice AQ qs.length cQ, .slice AL ls.length cL, .slice AW ws.length cW, rfl, ⟨AB, cB, rfl, RB9⟩, ⟨AQ, cQ, rfl, (RP.ext (Ext.trans (Ext.trans (Ext.trans E_y GL) E_k) GW)).ext E9⟩, ⟨AL, cL, rfl, (RL.ext (Ext.trans E_k GW)).ext E9⟩, ⟨AW, cW, rfl, RW.ext E9⟩⟩, ?_⟩
          exact ⟨⟨⟨r1, by show r ≤ 6; omega⟩, ⟨v1, by show v ≤ 6; omega⟩, ⟨g1, by show g ≤ 2; omega⟩, ⟨by show 1 ≤ t; omega, t2⟩, ⟨o1, by show o ≤ t; omega⟩, by show bs.length ≤ 4; omega, K3, by show qs.length ≤ 8; omega, L3, by show ls.length ≤ 4; omega, N3, by show (ws.length : Int) = v; omega, M3⟩, by show r ≤ size; omega, by show v ≤ size; omega, by show bs.length ≤ 3; omega, by show (qs.length : Int) ≤ pins; omega, N1⟩
end
end Go.Proofs.Ythphpbdmbmiaiaa
/- Walks: hands that are made of numbers, copies. Conditions: as each theorem states. -/
namespace Go.Proofs.Ythphpbdmbmiaiaa
open Go Go.HL Go.Proofs Go.Wx Go.Rd
section
variable [Lvl]
set_option maxRecDepth 100000
theorem set_of {l : List Int} {n : Nat} {k : Int} (e : k = n) (h : ∀ z ∈ l, 0 ≤ z ∧ z < n) (p : l.Pairwise (· < ·)) : SetOK l k := by
  subst e
  exact ⟨h, p⟩
theorem HandOf_ok (b x : Nat) (m : MachP) (hb : m.buttons.length ≤ 100) (hr : 0 ≤ m.regs ∧ m.regs ≤ 100) (AB AQ AL AW : Option Addr) (cB cQ cL cW : Nat) (h : AH) :
    FnM Try.prog (.func (.func 19) #[] ([] : List Value).toArray) [.pointer (some ⟨b, 0, none⟩), machV AB AQ AL AW cB cQ cL cW m] h [some (b, .cells #[.int .u64 (x : Int)] 97 (0, 0))]
    (fun v h' M' => ∃ (x' : Nat) (a : HandP), M' = [some (b, .cells #[.int .u64 (x' : Int)] 97 (0, 0))] ∧ HandV h' a v ∧ HOK m a) := by
  refine fnM_body rfl rfl Try.func19 rfl Try.ntmps19 rfl ?_
  refine xp_seq ?_
  refine xp_region rfl ?_
  refine op_box (v := .agg #[.int .i64 _, .int .i64 _, .int .i64 _, .int .i64 _, .int .i64 _, .slice _ _ _, .slice _ _ _, .slice _ _ _, .slice _ _ _]) (cs := [_, _, _, _, _, _, _, _, _]) rfl rfl fun b3 hb3 => ?_
  refine wp_norm [_, _] rfl ?_
  refine op_alloc (cs := [_, _]) rfl rfl fun b4 hb4 => ?_
  refine wp_norm [_, _, _] rfl ?_
  refine xp_seq ?_
  refine xp_dw [true, false, false] rfl rfl rfl ?_
  refine dw_pure (i := 0) rfl (by decide +kernel) (pv_move (v := .pointer (some ⟨b, 0, none⟩)) rfl) ?_
  refine dw_pure (i := 1) rfl (by decide +kernel) (pv_fieldAddr rfl rfl rfl rfl 5 rfl) ?_
  refine dw_load (i := 2) rfl (by decide +kernel) ?_
  refine op_loadP 1 (v := .slice _ _ _) rfl rfl rfl rfl ?_
  refine dw_pure (i := 3) rfl (by decide +kernel) (pv_len rfl rfl) ?_
  refine dw_pure (i := 5) rfl (by decide +kernel) (pv_move (v := .pointer (some ⟨b, 0, none⟩)) rfl) ?_
  refine dw_pure (i := 6) rfl (by decide +kernel) (pv_fieldAddr rfl rfl rfl rfl 2 rfl) ?_
  refine dw_load (i := 7) rfl (by decide +kernel) ?_
  refine op_loadP 1 (v := .int .i64 _) rfl rfl rfl rfl ?_
  refine dw_eff (i := 4) rfl (by decide +kernel) ?_
  refine op_fnMM [] [_] [_, _] (vs := [.pointer _, .int .i64 _]) rfl rfl rfl ((Pick_ok b x m.buttons.length (by omega) h)) ?_
  rintro _ h1 _ E1 ⟨x1, l, rfl, ⟨A1, c1, rfl, R1⟩, k1, k2, k3⟩
  refine ⟨ext_wlm E1 _, ?_⟩
  refine dw_norm [_, _, _] rfl ?_
  refine dw_last (i := 8) rfl (by decide +kernel) (by decide +kernel) ?_
  refine op_fnMM [] [_] [_, _] (vs := [.pointer _, .int .i64 _]) rfl rfl rfl (fnM_args (by simp only [List.cons.injEq, Value.int.injEq, true_and, and_true]; omega) (Pick_ok b x1 m.regs.toNat (by omega) h1)) ?_
  rintro _ h2 _ E2 ⟨x2, l2, rfl, ⟨A2, c2, rfl, R2⟩, j1, j2, j3⟩
  refine dw_norm [_, _, _] rfl ?_
  refine dw_pure (i := 9) rfl (by decide +kernel) (pv_build (zc := [_, _]) (vs := [(0, .slice _ _ _), (1, .slice _ _ _)]) (cs := [_, _]) rfl rfl rfl rfl rfl rfl) ?_
  refine dw_last (i := 10) rfl (by decide +kernel) (by decide +kernel) ?_
  refine op_storeP 2 (v := .agg #[.slice _ _ _, .slice _ _ _]) (vs := [_, _]) (c' := [_, _]) rfl rfl rfl rfl rfl rfl rfl rfl rfl ?_
  refine dw_norm [_, _, _] rfl ?_
  refine dw_end rfl ?_
  refine xp_ret ?_
  refine res_list (vs := [_]) Try.results19 ⟨resV_agg 2 rfl rfl rfl rfl rfl (vs := [.slice _ _ _, .slice _ _ _]) rfl, trivial⟩ fun V => ?_
  obtain ⟨h9, E9, e9, V9⟩ := wl_drop [_, _] [_] V
  exact ⟨h9, _, e9, V9, Ext.trans (Ext.trans E1 E2) E9, x2, ⟨l, l2⟩, rfl, ⟨_, _, rfl, ⟨A1, c1, rfl, (R1.ext E2).ext E9⟩, ⟨A2, c2, rfl, R2.ext E9⟩⟩, ⟨k1, k2⟩, set_of (by omega) j1 j2⟩
end
end Go.Proofs.Ythphpbdmbmiaiaa
/- The own logic, part U: from a walk to the row of a law. Conditions: none. -/
namespace Go.HL
open Go Go.Wx Go.RowKit
/-- What is asked at the end of a law. -/
def lawK (t : Nat) (h0 : AH) : Post
  | .normal, S, D, L, h => D = [] ∧ (Valid h L → Ext h0 (wl h L)) ∧ S t = .bool true
  | .ret, S, D, L, h => D = [] ∧ (Valid h L → Ext h0 (wl h L)) ∧ S t = .bool true
  | _, _, _, _, _ => False
theorem below_of {w w' : World} (se : SameEnv w w') (e : Ext (absH w.heap) (absH w'.heap)) : Below w.heap.size w w' := by
  have hb : ∀ k, k < w.heap.size → w'.heap[k]? = w.heap[k]? := by
    intro k hk
    have h1 : absH w.heap k = some w.heap[k] := Array.getElem?_eq_getElem hk
    have h2 : w'.heap[k]? = some w.heap[k] := e k _ h1
    rw [h2]
    exact (Array.getElem?_eq_getElem hk).symm
  refine ⟨se.os, se.tape, se.output, ?_, hb⟩
  rcases Nat.lt_or_ge w'.heap.size w.heap.size with h1 | h1
  · have h2 := hb w'.heap.size h1
    rw [Array.getElem?_eq_getElem h1] at h2
    simp at h2
  · exact h1
variable [Lvl]
/-- A slice of ints that came in. -/
theorem row_of {w : World} {a : Option Addr} {len cap : Nat} {zs : List Int} (h : (a = none ∧ len = 0 ∧ cap = 0 ∧ zs = []) ∨
    ∃ x, a = some x ∧ len ≤ cap ∧ cap ≤ maxLen ∧ zs.length = cap ∧ (∀ i, i < zs.length → w.cell? (x.add i) = some (.int .i64 (zs.getD i 0))) ∧ ∀ n ∈ zs, (Lit.int .i64 n).wf = true) :
    ∃ l : List Int, l.length = len ∧ Row (absH w.heap) 1 intC a l ∧ len ≤ maxLen ∧ ∀ n ∈ l, (Lit.int .i64 n).wf = true := by
  rcases h with ⟨rfl, rfl, rfl, rfl⟩ | ⟨x, rfl, hl, hm, hz, hc, hw⟩
  · exact ⟨[], rfl, ⟨fun _ h => (by cases h), Rd.nil _ _⟩, Nat.zero_le _, fun _ h => (by cases h)⟩
  · refine ⟨zs.take len, by rw [List.length_take]; omega, ⟨fun _ _ => rfl, ?_⟩, by omega, fun n hn => hw n (List.mem_of_mem_take hn)⟩
    have hflat : ∀ l : List Int, l.flatMap intC = l.map (Value.int .i64) := by
      intro l
      induction l with
      | nil => rfl
      | cons a l ih => simp [List.flatMap_cons, ih, intC]
    rw [hflat]
    intro hne
    have hpos : 0 < zs.length := by
      rcases Nat.eq_zero_or_pos zs.length with h0 | h0
      · rw [List.eq_nil_of_length_eq_zero h0] at hne; simp at hne
      · exact h0
    obtain ⟨g, off, sp⟩ := x
    have h0 := hc 0 hpos
    have hsp : sp = none := by
      cases sp with
      | none => rfl
      | some s =>
        exfalso
        have : w.cell? ((⟨g, off, some s⟩ : Addr).add 0) = none := by
          simp only [Addr.add]
          rw [cell_abs]
          unfold cellA
          split <;> simp
        rw [this] at h0
        cases h0
    subst hsp
    refine ⟨g, off, rfl, fun j u hu => ?_⟩
    have hj : j < zs.length := by
      have := (List.getElem?_eq_some_iff.1 hu).1
      rw [List.length_map, List.length_take] at this
      omega
    have h1 := hc j hj
    rw [cell_abs, add_none] at h1
    rw [h1]
    rw [List.getElem?_map, List.getElem?_take] at hu
    split at hu
    · rw [List.getElem?_eq_getElem hj] at hu
      simp only [Option.map_some, Option.some.injEq] at hu
      rw [← hu]
      simp [List.getD_eq_getElem?_getD, hj]
    · cases hu
end Go.HL
/- The own logic, part Uc: from a walk to the run of a law that starts goroutines. Conditions: none. -/
namespace Go.HL
open Go Go.Wx Go.RowKit Go.Conc Go.ConcN
/-- The run of a law: it ends, true, and leaves what was there. -/
def RunsTrue (P : Program) (f : FuncId) (args : Array Value) (w : World) : Prop :=
  ∃ M last o w' t', runNT P (M + 1) (solo (G (Frame.enter P f args .normal) []) w) #[] = (.ended o w', t') ∧ runN P M (solo (G (Frame.enter P f args .normal) []) w) = .next last ∧ step P last = .ended o w' ∧
    Go.Conc.Good P (fun v W' => v = .bool true ∧ Below w.heap.size w W') last o w' t'
theorem runs_body {P : Program} {f : FuncId} {fn : Func} {c : Code} {args : Array Value} {n t : Nat} {w : World} (hf : P.funcs[f]? = some fn) (hb : fn.body = some c) (hn : fn.ntmps = n) (ha : Nat.ble args.size n = true) (hr : fn.results = #[.tmp t]) (ht : Nat.blt t n = true) (hi : P.inits.idxOf? f = none)
    (x : ∀ h, h = absH w.heap → @xp ⟨true, none, none⟩ P n none c (lawK t h) (argS args) [] [] h) :
    RunsTrue P f args w := by
  letI : Lvl := ⟨true, none, none⟩
  have he : Frame.enter P f args .normal = mk { (default : Frame) with fn := f, kind := .normal, roundOf := none } n (argS args) [] [.code c] := by
    simp [Frame.enter, mk, hf, hb, hn, enter_tmps n args (Nat.le_of_ble_eq_true ha)]
  have hres : ∀ (S : Sl) (w' : World), S t = .bool true → results fn (arr n S) = .pure (.bool true) := by
    intro S w' hs
    unfold results
    rw [hr, List.mapM_toArray]
    have e1 : (arr n S).getD t undef = .bool true := by rw [arr_getD, if_pos (Nat.lt_of_lt_of_le (Nat.lt_succ_self t) (Nat.le_of_ble_eq_true ht)), hs]
    show Sem.pure ((arr n S).getD t undef) = _
    rw [e1]
  have x1 := x _ rfl (absH w.heap) (by have := Fits.nil (valid_nil (Fin.abs w.heap)); rw [wl_nil] at this; exact this) { (default : Frame) with fn := f, kind := .normal, roundOf := none } rfl [] []
  have x2 : Rch P (fun fr cs' H => cs' = [] ∧ fr.mode = .returning ∧ fr.defers = [] ∧ fr.kind = .normal ∧ fr.fn = f ∧ (∃ S, fr.tmps = arr n S ∧ S t = .bool true) ∧ Ext (absH w.heap) H) (mk { (default : Frame) with fn := f, kind := .normal, roundOf := none } n (argS args) [] [.code c]) [] (absH w.heap) := by
    refine x1.bind ?_
    rintro fr cs' H ⟨rfl, e, S', D', L', h', V', kk, a⟩
    cases e with
    | normal =>
      obtain ⟨rfl, ex, hs⟩ := kk
      have a' : fr = mk { (default : Frame) with fn := f, kind := .normal, roundOf := none } n S' [] [] := a
      subst a'
      have hH : H = wl h' L' := by rw [V'.eq]; exact hun_nil _
      subst hH
      refine .ctl (fr' := { mk { (default : Frame) with fn := f, kind := .normal, roundOf := none } n S' [] [] with mode := .returning }) (cs' := []) (fun w => by simp [stepG, stepG.exec, mk]) (.done ⟨rfl, rfl, rfl, rfl, rfl, ⟨S', rfl, hs⟩, ex V'.valid⟩)
    | ret =>
      obtain ⟨rfl, ex, hs⟩ := kk
      obtain ⟨todo, rfl⟩ := a.1 rfl
      have hH : H = wl h' L' := by rw [V'.eq]; exact hun_nil _
      subst hH
      exact .done ⟨rfl, rfl, rfl, rfl, rfl, ⟨S', rfl, hs⟩, ex V'.valid⟩
    | _ => exact kk.elim
  unfold RunsTrue
  rw [he]
  refine x2.ends rfl rfl ?_
  rintro fr cs h w' ⟨rfl, hm, hd, hk, hfn, ⟨S, htm, hs⟩, ex⟩ se rfl
  have hr1 := hres S w' hs
  have hru : (results fn fr.tmps).runT P w' #[] = (.ok (.bool true) w', #[]) := by rw [htm, hr1]; rfl
  have hf' : P.funcs[fr.fn]? = some fn := by rw [hfn]; exact hf
  have hi' : P.inits.idxOf? fr.fn = none := by rw [hfn]; exact hi
  have h1 : stepG P true (G fr []) w' = unwind P true fr [] none w' := by
    simp [stepG, stepG.exec, hm]
  have h2 : unwind P true fr [] none w' = GStep.after (seen P fr.fn #[]) (.ended (.done (.bool true)) w') := by
    unfold unwind
    rw [hd]
    simp only [hm, hf', hru]
    unfold doReturn
    simp only [hk, hi']
    rfl
  refine ⟨rfl, .bool true, seen P fr.fn #[], ?_, fun e he => ?_, rfl, below_of se ex⟩
  · rw [h1, h2]
    simp [GStep.after]
  · simp [seen] at he
end Go.HL
/- Plain: machines that pass the check; what levers do. Conditions: none. -/
namespace Go.Rd
open Go Go.HL Go.Wx
variable [Lvl]
theorem chk_of {m : MachP} (M : MOK m) : chkM m = 0 := by
  unfold chkM
  have h := M.rods; have h2 := M.levers; have h3 := M.regs; have h4 := M.travel; have h5 := M.opn
  rw [if_neg (by simp [inM]; omega), if_neg (by simp [inM]; omega), if_neg (by simp [inM]; omega), if_neg (by simp [inM]; omega), if_neg (by simp [inM]; omega)]
  have b1 : firstErr (checkButtonM m) m.buttons = 0 := firstErr_iff.2 fun b hb => by
    have := M.btn b hb
    unfold checkButtonM
    rw [if_neg (by simp [inM]; omega)]
  have b2 : firstErr (checkPinM m) m.pins = 0 := firstErr_iff.2 fun p hp => by
    obtain ⟨a, b, c⟩ := M.pin p hp
    unfold checkPinM
    rw [if_neg (by simp [inM]; omega), if_neg (by simp [inM]; omega), if_neg (by simp [inM]; omega)]
  have b3 : firstErr (checkLinkM m) m.links = 0 := firstErr_iff.2 fun l hl => by
    obtain ⟨a, b, c, d, e⟩ := M.link l hl
    unfold checkLinkM
    rw [if_neg (by simp [inM]; omega), if_neg (by simp [inM]; omega), if_neg c, if_neg (by simp [inM]; omega), if_neg (by simp [inM]; omega)]
  have b4 : firstErr checkWeightM m.weights = 0 := firstErr_iff.2 fun w hw => by
    have := M.wt w hw
    unfold checkWeightM
    rw [if_neg (by simp [inM]; omega)]
  rw [if_neg (by have := M.bl; omega), b1, if_neg (by decide), if_neg (by have := M.pl; omega), b2, if_neg (by decide), if_neg (by have := M.ll; omega), b3, if_neg (by decide), if_neg (by have := M.wl; omega), b4]
theorem hand_of {m : MachP} {a : HandP} (M : MOK m) (H : HOK m a) : checkHandM m a = 0 := by
  unfold checkHandM
  rw [chk_of M, if_neg (by decide), checkSet_iff.2 H.b, if_neg (by decide), checkSet_iff.2 H.o]
theorem MOK.wlen {m : MachP} (M : MOK m) : m.weights.length < 2 ^ 40 := by have := M.wl; have := M.levers; omega
theorem HOK.blen {m : MachP} {a : HandP} (M : MOK m) (H : HOK m a) : a.buttons.length < 2 ^ 40 := by have := set_len H.b; have := M.bl; omega
theorem HOK.olen {m : MachP} {a : HandP} (M : MOK m) (H : HOK m a) : a.on.length < 2 ^ 40 := by
  have := M.regs
  have := set_len (below := m.regs.toNat) (by rw [Int.toNat_of_nonneg (by omega)]; exact H.o)
  omega
theorem MOK.pins {m : MachP} (M : MOK m) : ∀ p ∈ m.pins, 0 ≤ p.lever ∧ 0 ≤ p.rod := fun p hp => ⟨(M.pin p hp).2.1.1, (M.pin p hp).1.1⟩
theorem MOK.cap {m : MachP} (M : MOK m) {ps : List PinP} {ls : List LinkP} (hp : ps.length ≤ 8) (hl : ls.length ≤ 4)
    (h1 : ∀ p ∈ ps, (0 ≤ p.rod ∧ p.rod < m.rods) ∧ (0 ≤ p.lever ∧ p.lever < m.levers) ∧ (0 ≤ p.lag ∧ p.lag ≤ m.travel))
    (h2 : ∀ l ∈ ls, (0 ≤ l.frm ∧ l.frm < m.rods) ∧ (0 ≤ l.to ∧ l.to < m.rods) ∧ l.frm ≠ l.to ∧ (-1 ≤ l.reg ∧ l.reg < m.regs) ∧ (1 ≤ l.lag ∧ l.lag ≤ m.travel)) : MOK { m with pins := ps, links := ls } :=
  ⟨M.rods, M.levers, M.regs, M.travel, M.opn, M.bl, M.btn, hp, h1, hl, h2, M.wl, M.wt⟩
end Go.Rd
/- The own logic, part GS: a part of an array as a slice. Conditions: none. -/
namespace Go.HL
open Go
variable [Lvl]
section
variable {P : Program} {n : Nat} {d : Option Tmp} {ty : TypeId} {ps : String} {af : Array Edge} {S : Sl}
end
end Go.HL
/- Walks of package rod: how far rods turn. Conditions: as each theorem states. -/
namespace Go.Proofs.Ythphpbdmbmiaiaa
open Go Go.HL Go.Proofs Go.Wx Go.Rd
section
variable [Lvl]
set_option maxRecDepth 100000
end
end Go.Proofs.Ythphpbdmbmiaiaa
/- Walks of package rod: all faults, machines with some of them. Conditions: as each theorem states. -/
namespace Go.Proofs.Ythphpbdmbmiaiaa
open Go Go.HL Go.Proofs Go.Wx Go.Rd
section
variable [Lvl]
set_option maxRecDepth 100000
/-- A fault, told. -/
def toldC : FaultP → List Value
  | .shut i => [.int .i64 1, .int .i64 i]
  | .opn i => [.int .i64 2, .int .i64 i]
  | .pin i => [.int .i64 3, .int .i64 i]
  | .link i => [.int .i64 4, .int .i64 i]
theorem toldM (f : FaultP) : (toldC f).length = 2 := by cases f <;> rfl
theorem shutTold_ok (i : Nat) (h : AH) : FnT Try.prog 160 #[.int .i64 i] h (fun v _ => v = .agg (toldC (.shut i)).toArray) := by
  refine call_body Try.func160 rfl Try.ntmps160 rfl ?_
  refine xp_seq ?_
  refine xp_region rfl ?_
  refine op_alloc (cs := [_, _]) rfl rfl fun b2 hb2 => ?_
  refine wp_norm [_] rfl ?_
  refine xp_seq ?_
  refine xp_region rfl ?_
  refine op_pure (pv_move (v := .int .i64 _) rfl) ?_
  refine op_pure (pv_build (zc := [_, _]) (vs := [(0, .int .i64 _), (1, .int .i64 _)]) (cs := [_, _]) rfl rfl rfl rfl rfl rfl) ?_
  refine op_storeP 0 (v := .agg #[.int .i64 _, .int .i64 _]) (vs := [_, _]) (c' := [_, _]) rfl rfl rfl rfl rfl rfl rfl rfl rfl ?_
  refine wp_norm [_] rfl ?_
  refine xp_ret ?_
  refine res_list (vs := [_]) Try.results160 ⟨resV_agg 0 rfl rfl rfl rfl rfl (vs := [.int .i64 _, .int .i64 _]) rfl, trivial⟩ fun V => ?_
  exact ⟨(ext_wl V), rfl⟩
theorem openTold_ok (i : Nat) (h : AH) : FnT Try.prog 161 #[.int .i64 i] h (fun v _ => v = .agg (toldC (.opn i)).toArray) := by
  refine call_body Try.func161 rfl Try.ntmps161 rfl ?_
  refine xp_seq ?_
  refine xp_region rfl ?_
  refine op_alloc (cs := [_, _]) rfl rfl fun b2 hb2 => ?_
  refine wp_norm [_] rfl ?_
  refine xp_seq ?_
  refine xp_region rfl ?_
  refine op_pure (pv_move (v := .int .i64 _) rfl) ?_
  refine op_pure (pv_build (zc := [_, _]) (vs := [(0, .int .i64 _), (1, .int .i64 _)]) (cs := [_, _]) rfl rfl rfl rfl rfl rfl) ?_
  refine op_storeP 0 (v := .agg #[.int .i64 _, .int .i64 _]) (vs := [_, _]) (c' := [_, _]) rfl rfl rfl rfl rfl rfl rfl rfl rfl ?_
  refine wp_norm [_] rfl ?_
  refine xp_ret ?_
  refine res_list (vs := [_]) Try.results161 ⟨resV_agg 0 rfl rfl rfl rfl rfl (vs := [.int .i64 _, .int .i64 _]) rfl, trivial⟩ fun V => ?_
  exact ⟨(ext_wl V), rfl⟩
theorem pinTold_ok (i : Nat) (h : AH) : FnT Try.prog 159 #[.int .i64 i] h (fun v _ => v = .agg (toldC (.pin i)).toArray) := by
  refine call_body Try.func159 rfl Try.ntmps159 rfl ?_
  refine xp_seq ?_
  refine xp_region rfl ?_
  refine op_alloc (cs := [_, _]) rfl rfl fun b2 hb2 => ?_
  refine wp_norm [_] rfl ?_
  refine xp_seq ?_
  refine xp_region rfl ?_
  refine op_pure (pv_move (v := .int .i64 _) rfl) ?_
  refine op_pure (pv_build (zc := [_, _]) (vs := [(0, .int .i64 _), (1, .int .i64 _)]) (cs := [_, _]) rfl rfl rfl rfl rfl rfl) ?_
  refine op_storeP 0 (v := .agg #[.int .i64 _, .int .i64 _]) (vs := [_, _]) (c' := [_, _]) rfl rfl rfl rfl rfl rfl rfl rfl rfl ?_
  refine wp_norm [_] rfl ?_
  refine xp_ret ?_
  refine res_list (vs := [_]) Try.results159 ⟨resV_agg 0 rfl rfl rfl rfl rfl (vs := [.int .i64 _, .int .i64 _]) rfl, trivial⟩ fun V => ?_
  exact ⟨(ext_wl V), rfl⟩
theorem linkTold_ok (i : Nat) (h : AH) : FnT Try.prog 162 #[.int .i64 i] h (fun v _ => v = .agg (toldC (.link i)).toArray) := by
  refine call_body Try.func162 rfl Try.ntmps162 rfl ?_
  refine xp_seq ?_
  refine xp_region rfl ?_
  refine op_alloc (cs := [_, _]) rfl rfl fun b2 hb2 => ?_
  refine wp_norm [_] rfl ?_
  refine xp_seq ?_
  refine xp_region rfl ?_
  refine op_pure (pv_move (v := .int .i64 _) rfl) ?_
  refine op_pure (pv_build (zc := [_, _]) (vs := [(0, .int .i64 _), (1, .int .i64 _)]) (cs := [_, _]) rfl rfl rfl rfl rfl rfl) ?_
  refine op_storeP 0 (v := .agg #[.int .i64 _, .int .i64 _]) (vs := [_, _]) (c' := [_, _]) rfl rfl rfl rfl rfl rfl rfl rfl rfl ?_
  refine wp_norm [_] rfl ?_
  refine xp_ret ?_
  refine res_list (vs := [_]) Try.results162 ⟨resV_agg 0 rfl rfl rfl rfl rfl (vs := [.int .i64 _, .int .i64 _]) rfl, trivial⟩ fun V => ?_
  exact ⟨(ext_wl V), rfl⟩
theorem flat_snoc {l : List FaultP} {k : Nat} (h : k < l.length) : (l.take (k + 1)).flatMap toldC = (l.take k).flatMap toldC ++ toldC l[k] := by
  rw [take_snoc h, List.flatMap_append]
  simp
def faultsL (m : MachP) : List FaultP := if chkM m = 0 then faultsM m else []
set_option maxHeartbeats 4000000 in
theorem Faults_ok (m : MachP) (AB AQ AL AW : Option Addr) (cB cQ cL cW : Nat) (h : AH) (RM : MachR h AB AQ AL AW m) (h0 : m.weights.length < 2 ^ 40) :
    FnT Try.prog 61 #[machV AB AQ AL AW cB cQ cL cW m] h (fun v h' => ∃ L, v = .tuple #[L, .int .i64 (chkM m)] ∧ SlR h' 2 toldC (faultsL m) L) := by
  refine call_body Try.func61 rfl Try.ntmps61 rfl ?_
  refine xp_seq ?_
  refine xp_region rfl ?_
  refine op_box (v := .agg #[.int .i64 _, .int .i64 _, .int .i64 _, .int .i64 _, .int .i64 _, .slice _ _ _, .slice _ _ _, .slice _ _ _, .slice _ _ _]) (cs := [_, _, _, _, _, _, _, _, _]) rfl rfl fun b1 hb1 => ?_
  refine wp_norm [_] rfl ?_
  refine op_pure (pv_assign (v := .slice _ _ _) rfl) ?_
  refine op_pure (pv_assign (v := .int .i64 _) rfl) ?_
  refine xp_seq ?_
  refine xp_seq ?_
  refine xp_region rfl ?_
  refine op_loadPA 0 (vs := [.int .i64 _, .int .i64 _, .int .i64 _, .int .i64 _, .int .i64 _, .slice _ _ _, .slice _ _ _, .slice _ _ _, .slice _ _ _]) rfl rfl rfl rfl rfl ?_
  refine op_fn (caps := []) (vs := [.agg #[.int .i64 _, .int .i64 _, .int .i64 _, .int .i64 _, .int .i64 _, .slice _ _ _, .slice _ _ _, .slice _ _ _, .slice _ _ _]]) rfl rfl rfl (Check_ok m AB AQ AL AW cB cQ cL cW h (RM.ext (Ext.refl _)) h0) ?_
  rintro _ h1 E1 rfl
  refine op_pure (pv_assign (v := .int .i64 _) rfl) ?_
  refine xp_seq ?_
  refine xp_region rfl ?_
  refine op_pure (pv_move (v := .int .i64 _) rfl) ?_
  refine op_pure (pv_of (v := .bool _) rfl) ?_
  refine xp_cond rfl (fun hc => ?_) (fun hc => ?_)
  · skip
    have hc' : chkM m ≠ 0 := by simpa using hc
    refine xp_seq ?_
    refine xp_region rfl ?_
    refine op_pure (pv_move (v := .int .i64 _) rfl) ?_
    refine op_pure (pv_assign (v := .slice _ _ _) rfl) ?_
    refine op_pure (pv_assign (v := .int .i64 _) rfl) ?_
    refine xp_ret ?_
    refine res_list (vs := [_, _]) Try.results61 ⟨resV_tmp rfl rfl, resV_tmp rfl rfl, trivial⟩ fun V => ?_
    exact ⟨(Ext.trans E1 (ext_wl V)), _, rfl, by rw [faultsL, if_neg hc']; exact ⟨none, 0, rfl, fun _ h => absurd h List.not_mem_nil, Rd.nil _ _⟩⟩
  · skip
    have hc' : chkM m = 0 := by simpa using hc
    have M := check_ok hc'
    have lv := M.levers
    have pl := M.pl
    have ll := M.ll
    have fl := faults_len m
    refine xp_skip ?_
    refine xp_seq ?_
    refine xp_region rfl ?_
    refine op_pure (pv_assign (v := .slice _ _ _) rfl) ?_
    refine xp_seq ?_
    refine xp_seq ?_
    refine xp_region rfl ?_
    refine op_loadPA 0 (vs := [.int .i64 _, .int .i64 _, .int .i64 _, .int .i64 _, .int .i64 _, .slice _ _ _, .slice _ _ _, .slice _ _ _, .slice _ _ _]) rfl rfl rfl rfl rfl ?_
    refine op_fn (caps := []) (vs := [.agg #[.int .i64 _, .int .i64 _, .int .i64 _, .int .i64 _, .int .i64 _, .slice _ _ _, .slice _ _ _, .slice _ _ _, .slice _ _ _]]) rfl rfl rfl (faults_ok m (by omega) (by omega) (by omega) AB AQ AL AW cB cQ cL cW h1) ?_
    rintro _ h2 E2 ⟨FA, cF, rfl, RF⟩
    obtain ⟨fs, hfs⟩ : ∃ fs, fs = faultsM m := ⟨_, rfl⟩
    have eF : faultsL m = fs := by rw [faultsL, if_pos hc', hfs]
    rw [← hfs] at RF fl ⊢
    refine op_pure (pv_len rfl rfl) ?_
    refine op_pure (pv_move (v := .int .i64 _) rfl) ?_
    refine xp_block ?_
    refine goes_more ?_
    refine goes_norm [_, _] rfl ?_
    refine xp_loopL [5, 7, 16, 17, 18, 19, 20, 21, 22, 23, 24, 25] 2 (α := Nat × Acc) (fun ⟨k, a⟩ => [(5, .slice a.A a.n a.c), (16, .int .i64 k)]) (fun ⟨k, a⟩ L => L.set 1 (a.p)) (fun ⟨k, a⟩ h_k => k ≤ fs.length ∧ AccR 87 2 ((fs.take k).flatMap toldC) a) (fun ⟨k, a⟩ => fs.length - k) ((0, acc0)) ⟨rfl, rfl, trivial⟩ (rfl) (⟨Nat.zero_le _, accR0⟩) ?_
    rintro ⟨k, a⟩ T1 h_k E_k J_k
    refine goes_norm [_, _] rfl ?_
    obtain ⟨K1, K2⟩ := J_k
    refine xp_seq ?_
    refine xp_region rfl ?_
    refine op_pure (pv_of (v := .bool _) rfl) ?_
    refine xp_seq ?_
    refine xp_cond rfl (fun hk => ?_) (fun hk => ?_)
    · skip
      have hkl : k < fs.length := ltI hk
      obtain ⟨g, off, hA, hc⟩ := (RF.ext E_k).at (by omega) hkl
      have hN := flat_snoc hkl
      have hlen : ((fs.take k).flatMap toldC).length = k * 2 := by rw [flat_len (m := 2) (fun x _ => toldM x), List.length_take]; omega
      obtain ⟨fk, hfk⟩ : ∃ fk, fk = fs[k] := ⟨_, rfl⟩
      rw [← hfk] at hc hN
      rcases fk with i | i | i | i
      · skip
        refine xp_skip ?_
        refine xp_seq ?_
        refine xp_block ?_
        refine xp_seq ?_
        refine xp_region rfl ?_
        refine op_pure (pv_indexE rfl hA rfl rfl rfl (by omega) (by omega)) ?_
        refine op_load (v := _) rfl rfl ((hc) 0 _ rfl) ?_
        refine op_pure (pv_assign (v := _) rfl) ?_
        refine xp_region rfl ?_
        refine op_pure (pv_move (v := .slice _ _ _) rfl) ?_
        refine op_pure (pv_move (v := _) rfl) ?_
        refine op_invoke rfl (by kernel_rfl) rfl rfl (shutTold_ok i h_k) ?_
        rintro _ h3 E3 rfl
        refine op_buildSlice (zc := [_, _]) (vs := [(0, .agg #[.int .i64 _, .int .i64 _])]) (cs := [_, _]) rfl rfl rfl rfl rfl rfl rfl fun b23 hb23 => ?_
        refine wp_norm [_, _, _] rfl ?_
        refine op_appendR 1 K2 rfl rfl rfl (fun V => rdP V (i := 2) rfl) rfl rfl rfl rfl rfl rfl rfl rfl rfl (by omega) rfl (by rw [hlen]; simp; omega) fun a2 h2a E2a ha2 => ?_
        refine wp_norm [_, _, _] rfl ?_
        refine op_pure (pv_assign (v := .slice _ _ _) rfl) ?_
        refine xp_region rfl ?_
        refine op_pure (pv_arith rfl (by omega)) ?_
        refine op_pure (pv_move (v := .int .i64 _) rfl) ?_
        refine ⟨(k + 1, a2), ⟨rfl, rfl, trivial⟩, rfl, rfl, (Ext.trans (Ext.trans E_k E3) E2a), fun h3 E3 => ⟨hkl, by rw [hN]; exact ha2⟩, by first | omega | (dsimp only; omega), ?_⟩
        repeat (first | exact off_base _ _ _ | refine off_upd (by decide) ?_ | refine off_updL rfl ?_ | refine off_mix rfl ?_)
      · skip
        refine xp_skip ?_
        refine xp_seq ?_
        refine xp_block ?_
        refine xp_seq ?_
        refine xp_region rfl ?_
        refine op_pure (pv_indexE rfl hA rfl rfl rfl (by omega) (by omega)) ?_
        refine op_load (v := _) rfl rfl ((hc) 0 _ rfl) ?_
        refine op_pure (pv_assign (v := _) rfl) ?_
        refine xp_region rfl ?_
        refine op_pure (pv_move (v := .slice _ _ _) rfl) ?_
        refine op_pure (pv_move (v := _) rfl) ?_
        refine op_invoke rfl (by kernel_rfl) rfl rfl (openTold_ok i h_k) ?_
        rintro _ h3 E3 rfl
        refine op_buildSlice (zc := [_, _]) (vs := [(0, .agg #[.int .i64 _, .int .i64 _])]) (cs := [_, _]) rfl rfl rfl rfl rfl rfl rfl fun b23_1 hb23_1 => ?_
        refine wp_norm [_, _, _] rfl ?_
        refine op_appendR 1 K2 rfl rfl rfl (fun V => rdP V (i := 2) rfl) rfl rfl rfl rfl rfl rfl rfl rfl rfl (by omega) rfl (by rw [hlen]; simp; omega) fun a2 h3a E3a ha2 => ?_
        refine wp_norm [_, _, _] rfl ?_
        refine op_pure (pv_assign (v := .slice _ _ _) rfl) ?_
        refine xp_region rfl ?_
        refine op_pure (pv_arith rfl (by omega)) ?_
        refine op_pure (pv_move (v := .int .i64 _) rfl) ?_
        refine ⟨(k + 1, a2), ⟨rfl, rfl, trivial⟩, rfl, rfl, (Ext.trans (Ext.trans E_k E3) E3a), fun h3 E3 => ⟨hkl, by rw [hN]; exact ha2⟩, by first | omega | (dsimp only; omega), ?_⟩
        repeat (first | exact off_base _ _ _ | refine off_upd (by decide) ?_ | refine off_updL rfl ?_ | refine off_mix rfl ?_)
      · skip
        refine xp_skip ?_
        refine xp_seq ?_
        refine xp_block ?_
        refine xp_seq ?_
        refine xp_region rfl ?_
        refine op_pure (pv_indexE rfl hA rfl rfl rfl (by omega) (by omega)) ?_
        refine op_load (v := _) rfl rfl ((hc) 0 _ rfl) ?_
        refine op_pure (pv_assign (v := _) rfl) ?_
        refine xp_region rfl ?_
        refine op_pure (pv_move (v := .slice _ _ _) rfl) ?_
        refine op_pure (pv_move (v := _) rfl) ?_
        refine op_invoke rfl (by kernel_rfl) rfl rfl (pinTold_ok i h_k) ?_
        rintro _ h3 E3 rfl
        refine op_buildSlice (zc := [_, _]) (vs := [(0, .agg #[.int .i64 _, .int .i64 _])]) (cs := [_, _]) rfl rfl rfl rfl rfl rfl rfl fun b23_2 hb23_2 => ?_
        refine wp_norm [_, _, _] rfl ?_
        refine op_appendR 1 K2 rfl rfl rfl (fun V => rdP V (i := 2) rfl) rfl rfl rfl rfl rfl rfl rfl rfl rfl (by omega) rfl (by rw [hlen]; simp; omega) fun a2 h4a E4a ha2 => ?_
        refine wp_norm [_, _, _] rfl ?_
        refine op_pure (pv_assign (v := .slice _ _ _) rfl) ?_
        refine xp_region rfl ?_
        refine op_pure (pv_arith rfl (by omega)) ?_
        refine op_pure (pv_move (v := .int .i64 _) rfl) ?_
        refine ⟨(k + 1, a2), ⟨rfl, rfl, trivial⟩, rfl, rfl, (Ext.trans (Ext.trans E_k E3) E4a), fun h3 E3 => ⟨hkl, by rw [hN]; exact ha2⟩, by first | omega | (dsimp only; omega), ?_⟩
        repeat (first | exact off_base _ _ _ | refine off_upd (by decide) ?_ | refine off_updL rfl ?_ | refine off_mix rfl ?_)
      · skip
        refine xp_skip ?_
        refine xp_seq ?_
        refine xp_block ?_
        refine xp_seq ?_
        refine xp_region rfl ?_
        refine op_pure (pv_indexE rfl hA rfl rfl rfl (by omega) (by omega)) ?_
        refine op_load (v := _) rfl rfl ((hc) 0 _ rfl) ?_
        refine op_pure (pv_assign (v := _) rfl) ?_
        refine xp_region rfl ?_
        refine op_pure (pv_move (v := .slice _ _ _) rfl) ?_
        refine op_pure (pv_move (v := _) rfl) ?_
        refine op_invoke rfl (by kernel_rfl) rfl rfl (linkTold_ok i h_k) ?_
        rintro _ h3 E3 rfl
        refine op_buildSlice (zc := [_, _]) (vs := [(0, .agg #[.int .i64 _, .int .i64 _])]) (cs := [_, _]) rfl rfl rfl rfl rfl rfl rfl fun b23_3 hb23_3 => ?_
        refine wp_norm [_, _, _] rfl ?_
        refine op_appendR 1 K2 rfl rfl rfl (fun V => rdP V (i := 2) rfl) rfl rfl rfl rfl rfl rfl rfl rfl rfl (by omega) rfl (by rw [hlen]; simp; omega) fun a2 h5a E5a ha2 => ?_
        refine wp_norm [_, _, _] rfl ?_
        refine op_pure (pv_assign (v := .slice _ _ _) rfl) ?_
        refine xp_region rfl ?_
        refine op_pure (pv_arith rfl (by omega)) ?_
        refine op_pure (pv_move (v := .int .i64 _) rfl) ?_
        refine ⟨(k + 1, a2), ⟨rfl, rfl, trivial⟩, rfl, rfl, (Ext.trans (Ext.trans E_k E3) E5a), fun h3 E3 => ⟨hkl, by rw [hN]; exact ha2⟩, by first | omega | (dsimp only; omega), ?_⟩
        repeat (first | exact off_base _ _ _ | refine off_upd (by decide) ?_ | refine off_updL rfl ?_ | refine off_mix rfl ?_)
    · skip
      have hke : k = fs.length := by have := geI hk; omega
      subst hke
      rw [List.take_length] at K2
      refine xp_exit ?_
      refine xp_seq ?_
      refine xp_region rfl ?_
      refine op_pure (pv_move (v := .slice _ _ _) rfl) ?_
      refine op_pure (pv_assign (v := .slice _ _ _) rfl) ?_
      refine op_pure (pv_assign (v := .int .i64 _) rfl) ?_
      refine xp_ret ?_
      refine res_list (vs := [_, _]) Try.results61 ⟨resV_tmp rfl rfl, resV_tmp rfl rfl, trivial⟩ fun V => ?_
      refine ⟨(Ext.trans (Ext.trans (Ext.trans E1 E2) E_k) (ext_wl V)), .slice a.A a.n a.c, by rw [hc']; rfl, ?_⟩
      rw [eF]
      exact AccP.row (i := 1) K2 (by omega) (fun x _ => toldM x) V rfl
def pickL (m : MachP) (l : List Int) : List FaultP := l.map fun n => (faultsM m).getD n.toNat (.shut 0)
theorem pickL_fok {m : MachP} (M : MOK m) {l : List Int} (h : ∀ n ∈ l, 0 ≤ n ∧ n < (faultsM m).length) : ∀ f ∈ pickL m l, FOK m f := by
  intro f hf
  obtain ⟨n, hn, rfl⟩ := List.mem_map.1 hf
  have := h n hn
  rw [List.getD_eq_getElem?_getD, List.getElem?_eq_getElem (by omega)]
  exact faults_fok M (List.getElem_mem _)
theorem pick_ok (fs : List FaultP) (hF : fs.length < 2 ^ 20) (l : List Int) (hl : l.length < 2 ^ 19) (hb : ∀ n ∈ l, 0 ≤ n ∧ n < fs.length) (FA A : Option Addr) (cF c : Nat) (h : AH) (RF : Row h 1 faultC FA fs) (R : Row h 1 intC A l) :
    FnT Try.prog 105 #[.slice FA fs.length cF, .slice A l.length c] h (fun v h' => SlR h' 1 faultC (l.map fun n => fs.getD n.toNat (.shut 0)) v) := by
  refine call_body Try.func105 rfl Try.ntmps105 rfl ?_
  refine xp_seq ?_
  refine xp_region rfl ?_
  refine op_pure (pv_assign (v := .slice _ _ _) rfl) ?_
  refine xp_seq ?_
  refine xp_region rfl ?_
  refine op_pure (pv_assign (v := .slice _ _ _) rfl) ?_
  refine xp_seq ?_
  refine xp_seq ?_
  refine xp_region rfl ?_
  refine op_pure (pv_move (v := .slice _ _ _) rfl) ?_
  refine op_pure (pv_len rfl rfl) ?_
  refine op_pure (pv_move (v := .int .i64 _) rfl) ?_
  refine xp_block ?_
  refine goes_more ?_
  refine goes_norm [_] rfl ?_
  refine xp_loopL [5, 7, 10, 11, 12, 13, 14, 15, 16, 17, 18, 19, 20, 21] 1 (α := Nat × Acc) (fun ⟨k, a⟩ => [(5, .slice a.A a.n a.c), (10, .int .i64 k)]) (fun ⟨k, a⟩ L => L.set 0 (a.p)) (fun ⟨k, a⟩ h_k => k ≤ l.length ∧ AccR 135 1 (((l.take k).map fun n => fs.getD n.toNat (.shut 0)).flatMap faultC) a) (fun ⟨k, a⟩ => l.length - k) ((0, acc0)) ⟨rfl, rfl, trivial⟩ (rfl) (⟨Nat.zero_le _, accR0⟩) ?_
  rintro ⟨k, a⟩ T1 h_k E_k J_k
  refine goes_norm [_] rfl ?_
  obtain ⟨K1, K2⟩ := J_k
  refine xp_seq ?_
  refine xp_region rfl ?_
  refine op_pure (pv_of (v := .bool _) rfl) ?_
  refine xp_seq ?_
  refine xp_cond rfl (fun hk => ?_) (fun hk => ?_)
  · skip
    have hkl : k < l.length := ltI hk
    have hbk := hb _ (List.getElem_mem hkl)
    have hlf : l[k].toNat < fs.length := by omega
    have hgd : fs.getD l[k].toNat (.shut 0) = fs[l[k].toNat] := by rw [List.getD_eq_getElem?_getD, List.getElem?_eq_getElem hlf]; rfl
    obtain ⟨g, off, hA, hc⟩ := (R.ext E_k).at (by omega) hkl
    obtain ⟨g2, off2, hB, hd⟩ := (RF.ext E_k).at (by omega) hlf
    rw [← hgd] at hd
    refine xp_skip ?_
    refine xp_seq ?_
    refine xp_block ?_
    refine xp_seq ?_
    refine xp_region rfl ?_
    refine op_pure (pv_indexE rfl hA rfl rfl rfl (by omega) (by omega)) ?_
    refine op_load (v := .int .i64 _) rfl rfl ((hc) 0 _ rfl) ?_
    refine op_pure (pv_assign (v := .int .i64 _) rfl) ?_
    refine xp_region rfl ?_
    refine op_pure (pv_move (v := .slice _ _ _) rfl) ?_
    refine op_pure (pv_move (v := .slice _ _ _) rfl) ?_
    refine op_pure (pv_move (v := .int .i64 _) rfl) ?_
    refine op_pure (pv_indexE rfl hB rfl rfl rfl (by omega) (by omega)) ?_
    refine op_load (v := _) rfl rfl ((hd) 0 _ rfl) ?_
    refine op_buildSlice (m := 1) (zc := [.nilIface]) (vs := [(0, faultV (fs.getD l[k].toNat (.shut 0)))]) (cs := [faultV (fs.getD l[k].toNat (.shut 0))]) rfl rfl rfl rfl rfl rfl (fill_fault _) fun b19 hb19 => ?_
    refine wp_norm [_, _] rfl ?_
    refine op_appendR 0 K2 rfl rfl rfl (fun V => rdP V (i := 1) rfl) rfl (faultP (fs.getD l[k].toNat (.shut 0))) rfl rfl rfl rfl rfl rfl rfl (by omega) rfl (by rw [flat_len (m := 1) (fun _ _ => rfl)]; simp; omega) fun a2 h2a E2a ha2 => ?_
    refine wp_norm [_, _] rfl ?_
    refine op_pure (pv_assign (v := .slice _ _ _) rfl) ?_
    refine xp_region rfl ?_
    refine op_pure (pv_arith rfl (by omega)) ?_
    refine op_pure (pv_move (v := .int .i64 _) rfl) ?_
    refine ⟨(k + 1, a2), ⟨rfl, rfl, trivial⟩, rfl, rfl, (Ext.trans E_k E2a), fun h3 E3 => ⟨hkl, by rw [take_snoc hkl, List.map_append, List.flatMap_append]; exact ha2⟩, by first | omega | (dsimp only; omega), ?_⟩
    repeat (first | exact off_base _ _ _ | refine off_upd (by decide) ?_ | refine off_updL rfl ?_ | refine off_mix rfl ?_)
  · skip
    have hke : k = l.length := by have := geI hk; omega
    subst hke
    rw [List.take_length] at K2
    refine xp_exit ?_
    refine xp_seq ?_
    refine xp_region rfl ?_
    refine op_pure (pv_move (v := .slice _ _ _) rfl) ?_
    refine op_pure (pv_assign (v := .slice _ _ _) rfl) ?_
    refine xp_ret ?_
    refine res_list (vs := [_]) Try.results105 ⟨resV_tmp rfl rfl, trivial⟩ fun V => ?_
    exact ⟨(Ext.trans E_k (ext_wl V)), AccP.row (i := 0) K2 (by omega) (fun _ _ => rfl) V rfl⟩
theorem soundsB_small {m : MachP} (M : MOK m) {l : List FaultP} (hf : ∀ f ∈ l, FOK m f) (a : HandP) : soundsB m l a < 2 ^ 60 := by
  have PF := pfit_of (brk_mok M l)
  have h1 := sounds_small PF a m.travel
  have h2 := brk_bits M.levers.2 hf
  unfold soundsB
  exact Nat.lt_of_le_of_lt Nat.and_le_left (Nat.or_lt_two_pow h1 (by omega))
def brokenE (m : MachP) (l : List Int) (a : HandP) : Int := if chkM m ≠ 0 then chkM m else if checkSetM l (faultsM m).length ≠ 0 then checkSetM l (faultsM m).length else checkHandM m a
def brokenL (m : MachP) (l : List Int) (a : HandP) : List Int := if brokenE m l a = 0 then listN (soundsB m (pickL m l) a) 6 else []
set_option maxHeartbeats 4000000 in
theorem Broken_ok (hph : Lvl.ph = true) (m : MachP) (l : List Int) (a : HandP) (AB AQ AL AW NA HA OA : Option Addr) (cB cQ cL cW cN cH cO : Nat) (h : AH) (RM : MachR h AB AQ AL AW m) (RN : Row h 1 intC NA l) (RH : HandR h HA OA a) (h0 : m.weights.length < 2 ^ 40) (hl : l.length < 2 ^ 19) (h1 : a.buttons.length < 2 ^ 40) (h2 : a.on.length < 2 ^ 40) :
    FnT Try.prog 65 #[machV AB AQ AL AW cB cQ cL cW m, .slice NA l.length cN, handV HA OA cH cO a] h (fun v h' => ∃ L, v = .tuple #[L, .int .i64 (brokenE m l a)] ∧ SlR h' 1 intC (brokenL m l a) L) := by
  refine call_body Try.func65 rfl Try.ntmps65 rfl ?_
  refine xp_seq ?_
  refine xp_region rfl ?_
  refine op_box (v := .agg #[.int .i64 _, .int .i64 _, .int .i64 _, .int .i64 _, .int .i64 _, .slice _ _ _, .slice _ _ _, .slice _ _ _, .slice _ _ _]) (cs := [_, _, _, _, _, _, _, _, _]) rfl rfl fun b3 hb3 => ?_
  refine wp_norm [_] rfl ?_
  refine op_box (v := .agg #[.slice _ _ _, .slice _ _ _]) (cs := [_, _]) rfl rfl fun b5 hb5 => ?_
  refine wp_norm [_, _] rfl ?_
  refine op_pure (pv_assign (v := .slice _ _ _) rfl) ?_
  refine op_pure (pv_assign (v := .int .i64 _) rfl) ?_
  refine xp_seq ?_
  refine xp_seq ?_
  refine xp_region rfl ?_
  refine op_loadPA 0 (vs := [.int .i64 _, .int .i64 _, .int .i64 _, .int .i64 _, .int .i64 _, .slice _ _ _, .slice _ _ _, .slice _ _ _, .slice _ _ _]) rfl rfl rfl rfl rfl ?_
  refine op_fn (caps := []) (vs := [.agg #[.int .i64 _, .int .i64 _, .int .i64 _, .int .i64 _, .int .i64 _, .slice _ _ _, .slice _ _ _, .slice _ _ _, .slice _ _ _]]) rfl rfl rfl (Check_ok m AB AQ AL AW cB cQ cL cW h (RM.ext (Ext.refl _)) h0) ?_
  rintro _ h3 E3 rfl
  refine op_pure (pv_assign (v := .int .i64 _) rfl) ?_
  refine xp_seq ?_
  refine xp_region rfl ?_
  refine op_pure (pv_move (v := .int .i64 _) rfl) ?_
  refine op_pure (pv_of (v := .bool _) rfl) ?_
  refine xp_cond rfl (fun hc => ?_) (fun hc => ?_)
  · skip
    have hc' : chkM m ≠ 0 := by simpa using hc
    have e : brokenE m l a = chkM m := by rw [brokenE, if_pos hc']
    refine xp_seq ?_
    refine xp_region rfl ?_
    refine op_pure (pv_move (v := .int .i64 _) rfl) ?_
    refine op_pure (pv_assign (v := .slice _ _ _) rfl) ?_
    refine op_pure (pv_assign (v := .int .i64 _) rfl) ?_
    refine xp_ret ?_
    refine res_list (vs := [_, _]) Try.results65 ⟨resV_tmp rfl rfl, resV_tmp rfl rfl, trivial⟩ fun V => ?_
    exact ⟨(Ext.trans E3 (ext_wl V)), .slice none 0 0, by rw [e]; rfl, by rw [brokenL, e, if_neg hc']; exact ⟨none, 0, rfl, row_nil _ _⟩⟩
  · skip
    have hc' : chkM m = 0 := by simpa using hc
    have M := check_ok hc'
    have lv := M.levers
    have pl := M.pl
    have ll := M.ll
    have fl := faults_len m
    have e0 : brokenE m l a = if checkSetM l (faultsM m).length ≠ 0 then checkSetM l (faultsM m).length else checkHandM m a := by rw [brokenE, if_neg (by simp [hc'])]
    refine xp_skip ?_
    refine xp_seq ?_
    refine xp_region rfl ?_
    refine op_loadPA 0 (vs := [.int .i64 _, .int .i64 _, .int .i64 _, .int .i64 _, .int .i64 _, .slice _ _ _, .slice _ _ _, .slice _ _ _, .slice _ _ _]) rfl rfl rfl rfl rfl ?_
    refine op_fn (caps := []) (vs := [.agg #[.int .i64 _, .int .i64 _, .int .i64 _, .int .i64 _, .int .i64 _, .slice _ _ _, .slice _ _ _, .slice _ _ _, .slice _ _ _]]) rfl rfl rfl (faults_ok m (by omega) (by omega) (by omega) AB AQ AL AW cB cQ cL cW h3) ?_
    rintro _ h4 E4 ⟨FA, cF, rfl, RF⟩
    refine op_pure (pv_assign (v := .slice _ _ _) rfl) ?_
    refine xp_seq ?_
    refine xp_seq ?_
    refine xp_region rfl ?_
    refine op_pure (pv_move (v := .slice _ _ _) rfl) ?_
    refine op_pure (pv_move (v := .slice _ _ _) rfl) ?_
    refine op_pure (pv_len rfl rfl) ?_
    refine op_fn (caps := []) (vs := [.slice _ _ _, .int .i64 _]) rfl rfl rfl (checkSet_ok l (faultsM m).length (by omega) NA cN h4 (RN.ext (Ext.trans E3 E4)) (by omega)) ?_
    rintro _ h5 E5 rfl
    refine op_pure (pv_assign (v := .int .i64 _) rfl) ?_
    refine xp_seq ?_
    refine xp_region rfl ?_
    refine op_pure (pv_move (v := .int .i64 _) rfl) ?_
    refine op_pure (pv_of (v := .bool _) rfl) ?_
    refine xp_cond rfl (fun hs => ?_) (fun hs => ?_)
    · skip
      have hs' : checkSetM l (faultsM m).length ≠ 0 := by simpa using hs
      rw [if_pos hs'] at e0
      refine xp_seq ?_
      refine xp_region rfl ?_
      refine op_pure (pv_move (v := .int .i64 _) rfl) ?_
      refine op_pure (pv_assign (v := .slice _ _ _) rfl) ?_
      refine op_pure (pv_assign (v := .int .i64 _) rfl) ?_
      refine xp_ret ?_
      refine res_list (vs := [_, _]) Try.results65 ⟨resV_tmp rfl rfl, resV_tmp rfl rfl, trivial⟩ fun V => ?_
      exact ⟨(Ext.trans (Ext.trans (Ext.trans E3 E4) E5) (ext_wl V)), .slice none 0 0, by rw [e0]; rfl, by rw [brokenL, e0, if_neg hs']; exact ⟨none, 0, rfl, row_nil _ _⟩⟩
    · skip
      have hs' : checkSetM l (faultsM m).length = 0 := by simpa using hs
      rw [if_neg (by simp [hs'])] at e0
      have SO := checkSet_iff.1 hs'
      have hfo := pickL_fok M (fun n hn => SO.mem n hn)
      refine xp_skip ?_
      refine xp_seq ?_
      refine xp_seq ?_
      refine xp_region rfl ?_
      refine op_loadPA 0 (vs := [.int .i64 _, .int .i64 _, .int .i64 _, .int .i64 _, .int .i64 _, .slice _ _ _, .slice _ _ _, .slice _ _ _, .slice _ _ _]) rfl rfl rfl rfl rfl ?_
      refine op_loadPA 1 (vs := [.slice _ _ _, .slice _ _ _]) rfl rfl rfl rfl rfl ?_
      refine op_fn (caps := []) (vs := [.agg #[.int .i64 _, .int .i64 _, .int .i64 _, .int .i64 _, .int .i64 _, .slice _ _ _, .slice _ _ _, .slice _ _ _, .slice _ _ _], .agg #[.slice _ _ _, .slice _ _ _]]) rfl rfl rfl (checkHand_ok m a AB AQ AL AW HA OA cB cQ cL cW cH cO h5 (RM.ext (Ext.trans (Ext.trans E3 E4) E5)) (RH.ext (Ext.trans (Ext.trans E3 E4) E5)) h0 h1 h2) ?_
      rintro _ h6 E6 rfl
      refine op_pure (pv_assign (v := .int .i64 _) rfl) ?_
      refine xp_seq ?_
      refine xp_region rfl ?_
      refine op_pure (pv_move (v := .int .i64 _) rfl) ?_
      refine op_pure (pv_of (v := .bool _) rfl) ?_
      refine xp_cond rfl (fun hd => ?_) (fun hd => ?_)
      · skip
        have hd' : checkHandM m a ≠ 0 := by simpa using hd
        refine xp_seq ?_
        refine xp_region rfl ?_
        refine op_pure (pv_move (v := .int .i64 _) rfl) ?_
        refine op_pure (pv_assign (v := .slice _ _ _) rfl) ?_
        refine op_pure (pv_assign (v := .int .i64 _) rfl) ?_
        refine xp_ret ?_
        refine res_list (vs := [_, _]) Try.results65 ⟨resV_tmp rfl rfl, resV_tmp rfl rfl, trivial⟩ fun V => ?_
        exact ⟨(Ext.trans (Ext.trans (Ext.trans (Ext.trans E3 E4) E5) E6) (ext_wl V)), .slice none 0 0, by rw [e0]; rfl, by rw [brokenL, e0, if_neg hd']; exact ⟨none, 0, rfl, row_nil _ _⟩⟩
      · skip
        have hd' : checkHandM m a = 0 := by simpa using hd
        obtain ⟨_, H⟩ := checkHand_ok0 hd'
        rw [hd'] at e0
        refine xp_skip ?_
        refine xp_seq ?_
        refine xp_dw [] rfl rfl rfl ?_
        refine dw_load (i := 0) rfl (by decide +kernel) ?_
        refine op_loadPA 0 (vs := [.int .i64 _, .int .i64 _, .int .i64 _, .int .i64 _, .int .i64 _, .slice _ _ _, .slice _ _ _, .slice _ _ _, .slice _ _ _]) rfl rfl rfl rfl rfl ?_
        refine dw_pure (i := 1) rfl (by decide +kernel) (pv_move (v := .slice _ _ _) rfl) ?_
        refine dw_pure (i := 2) rfl (by decide +kernel) (pv_move (v := .slice _ _ _) rfl) ?_
        refine dw_load (i := 5) rfl (by decide +kernel) ?_
        refine op_loadPA 1 (vs := [.slice _ _ _, .slice _ _ _]) rfl rfl rfl rfl rfl ?_
        refine dw_eff (i := 3) rfl (by decide +kernel) ?_
        refine op_fn (caps := []) (vs := [.slice _ _ _, .slice _ _ _]) rfl rfl rfl (pick_ok (faultsM m) (by omega) l hl (fun n hn => SO.mem n hn) FA NA cF cN h6 (RF.ext (Ext.trans E5 E6)) (RN.ext (Ext.trans (Ext.trans (Ext.trans E3 E4) E5) E6))) ?_
        rintro _ h7 E7 ⟨PA, cP, rfl, RP⟩
        refine ⟨ext_wlm E7 _, ?_⟩
        refine dw_eff (i := 4) rfl (by decide +kernel) ?_
        refine op_fn (caps := []) (vs := [.agg #[.int .i64 _, .int .i64 _, .int .i64 _, .int .i64 _, .int .i64 _, .slice _ _ _, .slice _ _ _, .slice _ _ _, .slice _ _ _], .slice _ _ _]) rfl rfl rfl (broken_ok m M (pickL m l) hfo (by rw [pickL, List.length_map]; omega) AB AQ AL AW PA cB cQ cL cW cP h7 (RM.ext (Ext.trans (Ext.trans (Ext.trans (Ext.trans E3 E4) E5) E6) E7)) RP) ?_
        rintro _ h8 E8 ⟨z1, z2, z3, z4, rfl, BB⟩
        refine ⟨ext_wlm E8 _, ?_⟩
        refine dw_last (i := 6) rfl (by decide +kernel) (by decide +kernel) ?_
        refine op_fn  (vs := _) rfl rfl rfl (brk_ok hph m M (pickL m l) hfo a H z1 z2 z3 z4 HA OA cH cO h8 BB (RH.ext (Ext.trans (Ext.trans (Ext.trans (Ext.trans (Ext.trans E3 E4) E5) E6) E7) E8))) ?_
        rintro _ h9 E9 rfl
        refine dw_last (i := 7) rfl (by decide +kernel) (by decide +kernel) ?_
        refine op_fn (caps := []) (vs := [.int .i64 _]) rfl rfl rfl (list_ok (soundsB m (pickL m l) a) (soundsB_small M hfo a) h9) ?_
        rintro _ h10 E10 ⟨LA, cL2, rfl, RL⟩
        refine dw_pure (i := 8) rfl (by decide +kernel) (pv_assign (v := .slice _ _ _) rfl) ?_
        refine dw_pure (i := 9) rfl (by decide +kernel) (pv_assign (v := .int .i64 _) rfl) ?_
        refine dw_end rfl ?_
        refine xp_ret ?_
        refine res_list (vs := [_, _]) Try.results65 ⟨resV_tmp rfl rfl, resV_tmp rfl rfl, trivial⟩ fun V => ?_
        exact ⟨(Ext.trans (Ext.trans (Ext.trans (Ext.trans (Ext.trans (Ext.trans (Ext.trans (Ext.trans E3 E4) E5) E6) E7) E8) E9) E10) (ext_wl V)), .slice LA (listN (soundsB m (pickL m l) a) 6).length cL2, by rw [e0]; rfl, by rw [brokenL, e0, if_pos rfl]; exact ⟨LA, cL2, rfl, RL.ext (ext_wl V)⟩⟩
end
end Go.Proofs.Ythphpbdmbmiaiaa
/- Walks: what sounds with one fault; what explains. Conditions: as each theorem states. -/
namespace Go.Proofs.Ythphpbdmbmiaiaa
open Go Go.HL Go.Proofs Go.Wx Go.Rd
section
variable [Lvl]
set_option maxRecDepth 100000
theorem and_mask {n : Nat} (h : n < 2 ^ 60) : n &&& (2 ^ 64 - 1 - 0) = n := by
  apply Nat.eq_of_testBit_eq
  intro i
  rw [Nat.testBit_and, Nat.sub_zero, Nat.testBit_two_pow_sub_one]
  by_cases hi : i < 64
  · simp [hi]
  · have : n.testBit i = false := Nat.testBit_lt_two_pow (Nat.lt_of_lt_of_le h (Nat.pow_le_pow_right (by omega) (by omega)))
    simp [this]
theorem soundsB_nil {m : MachP} (M : MOK m) (a : HandP) : soundsB m [] a = soundsM m a m.travel := by
  have h := sounds_small (pfit_of M) a m.travel
  have e : soundsB m [] a = (soundsM m a m.travel ||| 0) &&& (2 ^ 64 - 1 - 0) := rfl
  rw [e, Nat.or_zero, and_mask h]
theorem pickF_at {m : MachP} {f : Int} (h0 : 0 ≤ f) (hf : f < (faultsM m).length) : pickF m f = pickL m [f] ∧ pickF m f = [(faultsM m)[f.toNat]'(by omega)] := by
  have hlt : f.toNat < (faultsM m).length := by omega
  have e : pickF m f = [(faultsM m)[f.toNat]'hlt] := by rw [pickF, if_neg (by omega), List.drop_eq_getElem_cons hlt]; rfl
  refine ⟨?_, e⟩
  rw [e, pickL, List.map_cons, List.map_nil, List.getD_eq_getElem?_getD, List.getElem?_eq_getElem hlt]
  rfl
def aloneM (m : MachP) (f : Int) (a : HandP) : Nat := soundsB m (pickF m f) a
theorem alone_lt {m : MachP} (M : MOK m) (f : Int) (a : HandP) : aloneM m f a < 2 ^ 6 := by
  have h1 := sounds_lt (brkM m (pickF m f)) a m.travel
  have h2 := brk_bits M.levers.2 (pick_fok M f)
  have lv := M.levers
  have h3 : 2 ^ (brkM m (pickF m f)).levers.toNat ≤ 2 ^ 6 := Nat.pow_le_pow_right (by omega) (by show m.levers.toNat ≤ 6; omega)
  unfold aloneM soundsB
  exact Nat.lt_of_le_of_lt Nat.and_le_left (Nat.or_lt_two_pow (by omega) h2.1)
theorem alone_ok (hph : Lvl.ph = true) (m : MachP) (M : MOK m) (f : Int) (hf : -1 ≤ f ∧ f < (faultsM m).length) (a : HandP) (H : HOK m a) (AB AQ AL AW HA OA : Option Addr) (cB cQ cL cW cH cO : Nat) (h : AH) (RM : MachR h AB AQ AL AW m) (RH : HandR h HA OA a) :
    FnT Try.prog 54 #[machV AB AQ AL AW cB cQ cL cW m, .int .i64 f, handV HA OA cH cO a] h (fun v h' => ∃ L, v = .tuple #[L, .int .i64 0] ∧ SlR h' 1 intC (listN (aloneM m f a) 6) L) := by
  refine call_body Try.func54 rfl Try.ntmps54 rfl ?_
  refine xp_seq ?_
  refine xp_region rfl ?_
  refine op_box (v := .agg #[.int .i64 _, .int .i64 _, .int .i64 _, .int .i64 _, .int .i64 _, .slice _ _ _, .slice _ _ _, .slice _ _ _, .slice _ _ _]) (cs := [_, _, _, _, _, _, _, _, _]) rfl rfl fun b3 hb3 => ?_
  refine wp_norm [_] rfl ?_
  refine op_box (v := .agg #[.slice _ _ _, .slice _ _ _]) (cs := [_, _]) rfl rfl fun b5 hb5 => ?_
  refine wp_norm [_, _] rfl ?_
  refine op_pure (pv_assign (v := .slice _ _ _) rfl) ?_
  refine op_pure (pv_assign (v := .int .i64 _) rfl) ?_
  refine xp_seq ?_
  refine xp_seq ?_
  refine xp_region rfl ?_
  refine op_pure (pv_move (v := .int .i64 _) rfl) ?_
  refine op_pure (pv_of (v := .bool _) rfl) ?_
  refine xp_cond rfl (fun hn => ?_) (fun hn => ?_)
  · skip
    have hn' : f < 0 := of_decide_eq_true hn
    have e : aloneM m f a = soundsM m a m.travel := by rw [aloneM, pickF, if_pos hn', soundsB_nil M]
    have L1 := Sounds_ok hph m a AB AQ AL AW HA OA cB cQ cL cW cH cO
    rw [hand_of M H, show soundsL m a = listN (aloneM m f a) 6 by rw [soundsL, if_pos (hand_of M H), e]] at L1
    refine xp_seq ?_
    refine xp_region rfl ?_
    refine op_loadPA 0 (vs := [.int .i64 _, .int .i64 _, .int .i64 _, .int .i64 _, .int .i64 _, .slice _ _ _, .slice _ _ _, .slice _ _ _, .slice _ _ _]) rfl rfl rfl rfl rfl ?_
    refine op_loadPA 1 (vs := [.slice _ _ _, .slice _ _ _]) rfl rfl rfl rfl rfl ?_
    refine op_fn (caps := []) (vs := [.agg _, .agg _]) rfl rfl rfl (L1 h (RM.ext (Ext.refl _)) (RH.ext (Ext.refl _)) M.wlen (H.blen M) (H.olen M)) ?_
    rintro _ h3 E3 ⟨_, rfl, A3, c3, rfl, S3⟩
    refine op_pure (pv_of (v := .slice _ _ _) rfl) ?_
    refine op_pure (pv_of (v := .int .i64 _) rfl) ?_
    refine op_pure (pv_assign (v := .slice _ _ _) rfl) ?_
    refine op_pure (pv_assign (v := .int .i64 _) rfl) ?_
    refine xp_ret ?_
    refine res_list (vs := [_, _]) Try.results54 ⟨resV_tmp rfl rfl, resV_tmp rfl rfl, trivial⟩ fun V => ?_
    exact ⟨(Ext.trans E3 (ext_wl V)), _, rfl, A3, c3, rfl, S3.ext (ext_wl V)⟩
  · skip
    have hn' : 0 ≤ f := by have := of_decide_eq_false hn; omega
    have SO : SetOK [f] (faultsM m).length := ⟨fun x hx => by simp at hx; omega, by simp⟩
    have eE : brokenE m [f] a = 0 := by rw [brokenE, chk_of M, if_neg (by decide), checkSet_iff.2 SO, if_neg (by decide), hand_of M H]
    have eL : brokenL m [f] a = listN (aloneM m f a) 6 := by rw [brokenL, if_pos eE, aloneM, (pickF_at hn' hf.2).1]
    refine xp_skip ?_
    refine xp_seq ?_
    refine xp_region rfl ?_
    refine op_loadPA 0 (vs := [.int .i64 _, .int .i64 _, .int .i64 _, .int .i64 _, .int .i64 _, .slice _ _ _, .slice _ _ _, .slice _ _ _, .slice _ _ _]) rfl rfl rfl rfl rfl ?_
    refine op_pure (pv_move (v := .int .i64 _) rfl) ?_
    refine op_buildSlice (zc := [_]) (vs := [(0, .int .i64 _)]) (cs := [_]) rfl rfl rfl rfl rfl rfl rfl fun b17 hb17 => ?_
    refine wp_norm [_, _, _] rfl ?_
    refine op_loadPA 1 (vs := [.slice _ _ _, .slice _ _ _]) rfl rfl rfl rfl rfl ?_
    refine wp_pub 2 rfl rfl ?_
    intro h3 E3 p3
    refine wp_norm [_, _, _] rfl ?_
    have L1 := Broken_ok hph m [f] a AB AQ AL AW (some ⟨b17, 0, none⟩) HA OA cB cQ cL cW 1 cH cO
    rw [eE, eL] at L1
    refine op_fn (caps := []) (vs := [.agg _, .slice _ _ _, .agg _]) rfl rfl rfl (L1 h3 (RM.ext E3) (row_one p3) (RH.ext E3) M.wlen (by show 1 < 2 ^ 19; decide) (H.blen M) (H.olen M)) ?_
    rintro _ h4 E4 ⟨_, rfl, A4, c4, rfl, S4⟩
    refine op_pure (pv_of (v := .slice _ _ _) rfl) ?_
    refine op_pure (pv_of (v := .int .i64 _) rfl) ?_
    refine op_pure (pv_assign (v := .slice _ _ _) rfl) ?_
    refine op_pure (pv_assign (v := .int .i64 _) rfl) ?_
    refine xp_ret ?_
    refine res_list (vs := [_, _]) Try.results54 ⟨resV_tmp rfl rfl, resV_tmp rfl rfl, trivial⟩ fun V => ?_
    exact ⟨(Ext.trans (Ext.trans E3 E4) (ext_wl V)), _, rfl, A4, c4, rfl, S4.ext (ext_wl V)⟩
/-- What a suspect is. -/
theorem explains_iff {m : MachP} (M : MOK m) {f : Int} {hs : List HeardP} (X : ∀ x ∈ hs, HeardOK m x) : explainsB m (pickF m f) hs = true ↔ ∀ x ∈ hs, listN (aloneM m f x.hand) 6 = x.sounds := by
  unfold explainsB
  rw [Bool.not_eq_true', List.any_eq_false]
  constructor
  · intro h x hx
    have h1 := h x hx
    unfold against at h1
    have h2 : soundsB m (pickF m f) x.hand = setM x.sounds := by
      have : ¬ ((soundsB m (pickF m f) x.hand : Nat) : Int) ≠ ((setM x.sounds : Nat) : Int) := by simpa using h1
      omega
    have s6 : SetOK x.sounds (6 : Nat) := ⟨fun z hz => by have := (X x hx).s.mem z hz; have := M.levers; omega, (X x hx).s.asc⟩
    exact ((set_eq s6 (alone_lt M f x.hand)).1 h2.symm).symm
  · intro h x hx
    have s6 : SetOK x.sounds (6 : Nat) := ⟨fun z hz => by have := (X x hx).s.mem z hz; have := M.levers; omega, (X x hx).s.asc⟩
    have h2 := (set_eq s6 (alone_lt M f x.hand)).2 (h x hx).symm
    unfold against
    have h3 : soundsB m (pickF m f) x.hand = setM x.sounds := h2.symm
    rw [h3]
    simp
theorem susp_succ {m : MachP} {hs : List HeardP} {k : Nat} (hk : k < (faultsM m).length) : suspN m hs (k + 1) = if explainsB m (pickF m k) hs then suspN m hs k ++ [(k : Int)] else suspN m hs k := by
  have e := (pickF_at (m := m) (f := (k : Int)) (by omega) (by omega)).2
  rw [e, suspN, List.getElem?_eq_getElem hk]
  rfl
theorem susp_zero {m : MachP} {hs : List HeardP} : suspN m hs 0 = if explainsB m (pickF m (-1)) hs then [-1] else [] := rfl
theorem susp_pre {m : MachP} {hs : List HeardP} : ∀ {n k : Nat}, k ≤ n → n ≤ (faultsM m).length → ∃ r, suspN m hs n = suspN m hs k ++ r
  | 0, k, h, _ => ⟨[], by rw [Nat.le_zero.1 h, List.append_nil]⟩
  | n + 1, k, h, hn => by
    by_cases e : k = n + 1
    · subst e; exact ⟨[], by rw [List.append_nil]⟩
    · obtain ⟨r, hr⟩ := susp_pre (m := m) (hs := hs) (show k ≤ n by omega) (by omega)
      rw [susp_succ (by omega), hr]
      split
      · exact ⟨r ++ [(n : Int)], by rw [List.append_assoc]⟩
      · exact ⟨r, rfl⟩
/-- The suspects, from -1 on, of the first k + 1. -/
def suspK (m : MachP) (hs : List HeardP) : Nat → List Int
  | 0 => []
  | k + 1 => suspN m hs k
theorem suspK_at {m : MachP} {hs : List HeardP} {k : Nat} (hk : k ≤ (faultsM m).length) (he : explainsB m (pickF m ((k : Int) - 1)) hs = true) : (suspectsM m hs)[(suspK m hs k).length]? = some ((k : Int) - 1) ∧ (suspK m hs (k + 1)).length = (suspK m hs k).length + 1 := by
  cases k with
  | zero =>
    have e0 : suspN m hs 0 = [-1] := by
      rw [susp_zero, if_pos]
      exact he
    obtain ⟨r, hr⟩ := susp_pre (m := m) (hs := hs) (Nat.zero_le (faultsM m).length) (Nat.le_refl _)
    refine ⟨?_, by show (suspN m hs 0).length = 0 + 1; rw [e0]; rfl⟩
    show (suspN m hs (faultsM m).length)[0]? = _
    rw [hr, e0]
    rfl
  | succ k =>
    have hek : ((k + 1 : Nat) : Int) - 1 = k := by omega
    rw [hek] at he ⊢
    have e1 := susp_succ (m := m) (hs := hs) (show k < (faultsM m).length by omega)
    rw [if_pos he] at e1
    obtain ⟨r, hr⟩ := susp_pre (m := m) (hs := hs) hk (Nat.le_refl _)
    refine ⟨?_, by show (suspN m hs (k + 1)).length = (suspN m hs k).length + 1; rw [e1, List.length_append]; rfl⟩
    show (suspN m hs (faultsM m).length)[(suspN m hs k).length]? = _
    rw [hr, e1, List.append_assoc, List.getElem?_append_right (Nat.le_refl _), Nat.sub_self]
    rfl
theorem suspK_no {m : MachP} {hs : List HeardP} {k : Nat} (hk : k ≤ (faultsM m).length) (he : explainsB m (pickF m ((k : Int) - 1)) hs = false) : (suspK m hs (k + 1)).length = (suspK m hs k).length := by
  cases k with
  | zero =>
    show (suspN m hs 0).length = 0
    rw [susp_zero, if_neg (by
      intro h
      have he' : explainsB m (pickF m (-1)) hs = false := he
      rw [he'] at h
      cases h)]
    rfl
  | succ k =>
    have hek : ((k + 1 : Nat) : Int) - 1 = k := by omega
    rw [hek] at he
    show (suspN m hs (k + 1)).length = (suspN m hs k).length
    rw [susp_succ (by omega), if_neg (by rw [he]; decide)]
theorem susp_has {m : MachP} {hs : List HeardP} {f : Int} (hf : -1 ≤ f ∧ f < (faultsM m).length) (he : explainsB m (pickF m f) hs = true) : f ∈ suspectsM m hs := by
  have := suspK_at (m := m) (hs := hs) (k := (f + 1).toNat) (by omega) (by rw [show (((f + 1).toNat : Nat) : Int) - 1 = f by omega]; exact he)
  rw [show (((f + 1).toNat : Nat) : Int) - 1 = f by omega] at this
  exact List.mem_of_getElem? this.1
end
end Go.Proofs.Ythphpbdmbmiaiaa
/- Walks: whichever fault there truly is. Conditions: as each theorem states. -/
namespace Go.Proofs.Ythphpbdmbmiaiaa
open Go Go.HL Go.Proofs Go.Wx Go.Rd
section
variable [Lvl]
set_option maxRecDepth 100000
theorem tu_of {h : AH} {a : HandP} {s : List Int} {HA OA SA : Option Addr} {cH cO cS : Nat} (RH : HandR h HA OA a) (RS : Row h 1 intC SA s) : TU h ⟨a, s⟩ [.slice HA a.buttons.length cH, .slice OA a.on.length cO, .slice SA s.length cS] :=
  ⟨_, _, _, rfl, ⟨HA, cH, rfl, RH.b⟩, ⟨OA, cO, rfl, RH.o⟩, ⟨SA, cS, rfl, RS⟩⟩
theorem three_len {cs : List (List Value)} {c : List Value} (h : ∀ x ∈ cs, x.length = 3) (hc : c.length = 3) : ∀ x ∈ cs ++ [c], x.length = 3 := fun x hx => by
  rcases List.mem_append.1 hx with hx | hx
  · exact h x hx
  · simp at hx; subst hx; exact hc
theorem heard_of {m : MachP} (M : MOK m) {x : HeardP} {f : Int} (H : HOK m x.hand) (hs : x.sounds = listN (aloneM m f x.hand) 6) (hl : aloneM m f x.hand < 2 ^ m.levers.toNat) : HeardOK m x := ⟨H, by rw [hs]; exact listN_set _ hl⟩
theorem brk_stay_lt {m : MachP} (M : MOK m) {l : List FaultP} (hf : ∀ f ∈ l, FOK m f) : (brkF m l).stay < 2 ^ m.levers.toNat := brkF_inv (I := fun b => b.stay < 2 ^ m.levers.toNat) (Nat.two_pow_pos _) fun b f hm h => by
  have hk := hf f hm
  cases f with
  | shut i => exact h
  | opn i =>
    have hk' : (i : Int) < m.levers := hk
    exact Nat.or_lt_two_pow h (Nat.pow_lt_pow_right (by omega) (by have := M.levers; omega))
  | pin i => exact h
  | link i => exact h
theorem alone_lv {m : MachP} (M : MOK m) (f : Int) (a : HandP) : aloneM m f a < 2 ^ m.levers.toNat := by
  have h1 := sounds_lt (brkM m (pickF m f)) a m.travel
  have h2 : (brkF m (pickF m f)).stay < 2 ^ m.levers.toNat := brk_stay_lt M (pick_fok M f)
  have h3 : (brkM m (pickF m f)).levers = m.levers := rfl
  rw [h3] at h1
  unfold aloneM soundsB
  exact Nat.lt_of_le_of_lt Nat.and_le_left (Nat.or_lt_two_pow h1 h2)
theorem hlen_of {hs : List HeardP} (h : hs.length ≤ 5) {m : MachP} (M : MOK m) (X : ∀ x ∈ hs, HeardOK m x) : HLen hs := by
  refine ⟨by omega, fun x hx => ?_⟩
  have H := X x hx
  have s := set_len (below := m.levers.toNat) (by rw [Int.toNat_of_nonneg (by have := M.levers; omega)]; exact H.s)
  exact ⟨H.h.blen M, H.h.olen M, by have := M.levers; omega⟩
theorem heardE_of {m : MachP} (M : MOK m) {hs : List HeardP} (h : hs.length ≤ 5) (X : ∀ x ∈ hs, HeardOK m x) : checkHeardM m hs = 0 := by
  unfold checkHeardM
  rw [chk_of M, if_neg (by decide), if_neg (by omega)]
  refine firstErr_iff.2 fun x hx => ?_
  have H := X x hx
  unfold heard1M
  rw [hand_of M H.h, if_neg (by decide), checkSet_iff.2 H.s]
set_option maxHeartbeats 16000000 in
theorem found_runs (w : World) (l : List Int) (hl : l.length < 2 ^ 63) (A : Option Addr) (c : Nat) (R : Row (absH w.heap) 1 intC A l) : RunsTrue Try.prog 11 #[.slice A l.length c] w := by
  letI : Lvl := ⟨true, none, none⟩
  refine runs_body Try.func11 rfl Try.ntmps11 rfl Try.results11 rfl (by kernel_rfl) fun h hh => ?_
  rw [← hh] at R
  refine xp_seq ?_
  refine xp_region rfl ?_
  refine op_pure (pv_assign (v := .bool _) rfl) ?_
  refine xp_seq ?_
  refine xp_region rfl ?_
  refine op_pure (pv_move (v := .slice _ _ _) rfl) ?_
  refine op_fnMM [] [] [] rfl rfl rfl ((NewPot_ok l hl A c h R)) ?_
  rintro _ h1 _ E1 ⟨b, x, rfl, rfl⟩
  refine wp_norm [_] rfl ?_
  refine op_pure (pv_assign (v := .pointer _) rfl) ?_
  refine xp_seq ?_
  refine xp_region rfl ?_
  refine op_pure (pv_move (v := .pointer _) rfl) ?_
  refine op_fnMM [] [_] [] (vs := _) rfl rfl rfl ((MachineOf_ok b x 4 6 3 (by omega) (by omega) (by omega) h1)) ?_
  rintro _ h2 _ E2 ⟨x2, m, rfl, VM, Md⟩
  refine wp_norm [_] rfl ?_
  obtain ⟨AB, AQ, AL, AW, cB, cQ, cL, cW, rfl, RM⟩ := VM.open
  have M := Md.ok
  have mbl := Md.bl
  have mpl := Md.pl
  have mll := Md.ll
  have mlv := M.levers
  have mrg := M.regs
  have mwl := M.wl
  have fln := faults_len m
  have L1 := Faults_ok m AB AQ AL AW cB cQ cL cW
  rw [chk_of M, show faultsL m = faultsM m by rw [faultsL, if_pos (chk_of M)]] at L1
  obtain ⟨nf, hnf⟩ : ∃ nf, nf = (faultsM m).length := ⟨_, rfl⟩
  refine op_alloc (cs := [_, _, _, _, _, _, _, _, _]) rfl rfl fun b4 hb4 => ?_
  refine wp_norm [_, _] rfl ?_
  refine op_storeP 1 (v := .agg #[.int .i64 _, .int .i64 _, .int .i64 _, .int .i64 _, .int .i64 _, .slice _ _ _, .slice _ _ _, .slice _ _ _, .slice _ _ _]) (vs := [_, _, _, _, _, _, _, _, _]) (c' := [_, _, _, _, _, _, _, _, _]) rfl rfl rfl rfl rfl rfl rfl rfl rfl ?_
  refine wp_norm [_, _] rfl ?_
  refine xp_seq ?_
  refine xp_region rfl ?_
  refine op_loadPA 1 (vs := [.int .i64 _, .int .i64 _, .int .i64 _, .int .i64 _, .int .i64 _, .slice _ _ _, .slice _ _ _, .slice _ _ _, .slice _ _ _]) rfl rfl rfl rfl rfl ?_
  refine op_fn (caps := []) (vs := [.agg #[.int .i64 _, .int .i64 _, .int .i64 _, .int .i64 _, .int .i64 _, .slice _ _ _, .slice _ _ _, .slice _ _ _, .slice _ _ _]]) rfl rfl rfl (L1 h2 (RM.ext (Ext.refl _)) M.wlen) ?_
  rintro _ h3 E3 ⟨_, rfl, A3, c3, rfl, S3⟩
  rw [← hnf] at fln ⊢
  have d1 : ((nf : Int) != 2 * m.levers + (m.pins.length : Int) + (m.links.length : Int)) = false := by simp; omega
  refine op_pure (pv_move (v := .tuple #[.slice _ _ _, .int .i64 _]) rfl) ?_
  refine op_pure (pv_of (v := .slice _ _ _) rfl) ?_
  refine op_pure (pv_of (v := .int .i64 _) rfl) ?_
  refine op_pure (pv_assign (v := .slice _ _ _) rfl) ?_
  refine op_pure (pv_assign (v := .int .i64 _) rfl) ?_
  refine xp_seq ?_
  refine xp_seq ?_
  refine xp_region rfl ?_
  refine op_pure (pv_move (v := .int .i64 _) rfl) ?_
  refine op_pure (pv_of (v := .bool _) rfl) ?_
  refine op_pure (pv_move (v := .bool _) rfl) ?_
  refine guard_yes rfl rfl ?_
  refine op_pure (pv_move (v := .slice _ _ _) rfl) ?_
  refine guard_yes rfl rfl ?_
  refine op_pure (pv_len rfl rfl) ?_
  refine guard_yes rfl rfl ?_
  refine op_pure (pv_fieldAddr rfl rfl rfl rfl 1 rfl) ?_
  refine guard_yes rfl rfl ?_
  refine op_loadP 1 (v := .int .i64 _) rfl rfl rfl rfl ?_
  refine guard_yes rfl rfl ?_
  refine op_pure (pv_arith rfl (by omega)) ?_
  refine guard_yes rfl rfl ?_
  refine op_pure (pv_fieldAddr rfl rfl rfl rfl 6 rfl) ?_
  refine guard_yes rfl rfl ?_
  refine op_loadP 1 (v := .slice _ _ _) rfl rfl rfl rfl ?_
  refine guard_yes rfl rfl ?_
  refine op_pure (pv_len rfl rfl) ?_
  refine guard_yes rfl rfl ?_
  refine op_pure (pv_arith rfl (by omega)) ?_
  refine guard_yes rfl rfl ?_
  refine op_pure (pv_fieldAddr rfl rfl rfl rfl 7 rfl) ?_
  refine guard_yes rfl rfl ?_
  refine op_loadP 1 (v := .slice _ _ _) rfl rfl rfl rfl ?_
  refine guard_yes rfl rfl ?_
  refine op_pure (pv_len rfl rfl) ?_
  refine guard_yes rfl rfl ?_
  refine op_pure (pv_arith rfl (by omega)) ?_
  refine guard_yes rfl rfl ?_
  refine op_pure (pv_of (v := .bool _) rfl) ?_
  refine op_pure (pv_pickF rfl rfl (v := .bool _) rfl) ?_
  refine xp_condF rfl (d1) ?_
  refine xp_skip ?_
  refine xp_seq ?_
  refine xp_region rfl ?_
  refine op_pure (pv_move (v := .pointer _) rfl) ?_
  refine op_pure (pv_move (v := .slice _ _ _) rfl) ?_
  refine op_pure (pv_len rfl rfl) ?_
  refine op_pure (pv_arith rfl (by omega)) ?_
  refine op_fnMM [] [_] [_] (vs := [.pointer _, .int .i64 _, .int .i64 _]) rfl rfl rfl ((Within_ok b x2 (-1) (nf - 1) (by omega) (by omega) (by omega) h3)) ?_
  rintro _ h4 _ E4 ⟨x4, tr, rfl, rfl, tr1, tr2⟩
  refine wp_norm [_, _] rfl ?_
  have htr : -1 ≤ tr ∧ tr < (faultsM m).length := ⟨tr1, by omega⟩
  refine op_pure (pv_assign (v := .int .i64 _) rfl) ?_
  refine xp_seq ?_
  refine xp_region rfl ?_
  refine op_pure (pv_assign (v := .slice _ _ _) rfl) ?_
  refine goes_more ?_
  refine goes_norm [_, _, _] rfl ?_
  refine xp_seq ?_
  refine xp_seq ?_
  refine xp_region rfl ?_
  refine op_pure (pv_move (v := .pointer _) rfl) ?_
  refine op_fnMM [] [_] [_, _] (vs := [.pointer _, .int .i64 _]) rfl rfl rfl ((Upto_ok b x4 4 (by omega) h4)) ?_
  rintro _ h5 _ E5 ⟨x5, i0, rfl, rfl, i01, i02⟩
  refine wp_norm [_, _, _] rfl ?_
  refine op_pure (pv_assign (v := .int .i64 _) rfl) ?_
  refine xp_block ?_
  refine xp_loopL [2, 8, 9, 10, 11, 12, 55, 56, 57, 58, 59, 60, 61, 62, 63, 64, 65, 66, 67, 68, 69, 70, 71, 72, 73, 74, 75, 76] 3 (α := Int × Nat × List HeardP × Acc × List (List Value)) (fun ⟨i, y, hs, a, cs⟩ => [(9, .int .i64 i), (8, .slice a.A a.n a.c)]) (fun ⟨i, y, hs, a, cs⟩ L => (L.set 0 (some (b, .cells #[.int .u64 (y : Int)] 97 (0, 0)))).set 2 (a.p)) (fun ⟨i, y, hs, a, cs⟩ h_i => (0 ≤ i ∧ i + hs.length ≤ 4) ∧ (∀ x ∈ hs, HOK m x.hand ∧ x.sounds = listN (aloneM m tr x.hand) 6) ∧ AccR 78 3 (cs.flatMap id) a ∧ Els h_i TU hs cs ∧ ∀ x ∈ cs, x.length = 3) (fun ⟨i, y, hs, a, cs⟩ => i.toNat) ((i0, x5, [], acc0, [])) ⟨rfl, rfl, trivial⟩ (rfl) (⟨⟨by omega, by simp; omega⟩, fun _ hx => absurd hx List.not_mem_nil, accR0, Els.nil _ _, fun _ hx => absurd hx List.not_mem_nil⟩) ?_
  rintro ⟨i, y, hs, a, cs⟩ T1 h_i E_i J_i
  refine goes_norm [_, _, _] rfl ?_
  obtain ⟨⟨K1, K2⟩, K3, K4, K5, K6⟩ := J_i
  refine xp_seq ?_
  refine xp_seq ?_
  refine xp_region rfl ?_
  refine op_pure (pv_move (v := .int .i64 _) rfl) ?_
  refine op_pure (pv_of (v := .bool _) rfl) ?_
  refine xp_cond rfl (fun hi => ?_) (fun hi => ?_)
  · skip
    have hi0 : 0 < i := of_decide_eq_true hi
    refine xp_skip ?_
    refine xp_seq ?_
    refine xp_block ?_
    refine xp_seq ?_
    refine xp_region rfl ?_
    refine op_pure (pv_move (v := .pointer _) rfl) ?_
    refine op_loadPA 1 (vs := [.int .i64 _, .int .i64 _, .int .i64 _, .int .i64 _, .int .i64 _, .slice _ _ _, .slice _ _ _, .slice _ _ _, .slice _ _ _]) rfl rfl rfl rfl rfl ?_
    refine op_fnMM [] [_] [_, _] (vs := _) rfl rfl rfl ((HandOf_ok b y m (by omega) (by omega) AB AQ AL AW cB cQ cL cW h_i)) ?_
    rintro _ h6 _ E6 ⟨y2, a1, rfl, VH, H⟩
    refine wp_norm [_, _, _] rfl ?_
    obtain ⟨HA, OA, cH, cO, rfl, RH⟩ := VH.open
    refine op_alloc (cs := [_, _]) rfl rfl fun b10 hb10 => ?_
    refine wp_norm [_, _, _, _] rfl ?_
    refine op_storeP 3 (v := .agg #[.slice _ _ _, .slice _ _ _]) (vs := [_, _]) (c' := [_, _]) rfl rfl rfl rfl rfl rfl rfl rfl rfl ?_
    refine wp_norm [_, _, _, _] rfl ?_
    refine xp_seq ?_
    refine xp_region rfl ?_
    refine op_loadPA 1 (vs := [.int .i64 _, .int .i64 _, .int .i64 _, .int .i64 _, .int .i64 _, .slice _ _ _, .slice _ _ _, .slice _ _ _, .slice _ _ _]) rfl rfl rfl rfl rfl ?_
    refine op_pure (pv_move (v := .int .i64 _) rfl) ?_
    refine op_loadPA 3 (vs := [.slice _ _ _, .slice _ _ _]) rfl rfl rfl rfl rfl ?_
    refine op_fn (caps := []) (vs := [.agg _, .int .i64 _, .agg _]) rfl rfl rfl (alone_ok rfl m M tr htr a1 H AB AQ AL AW HA OA cB cQ cL cW cH cO h6 (RM.ext (Ext.trans (Ext.trans (Ext.trans (Ext.trans E3 E4) E5) E_i) E6)) (RH.ext (Ext.refl _))) ?_
    rintro _ h7 E7 ⟨_, rfl, A7, c7, rfl, S7⟩
    refine op_pure (pv_move (v := .tuple #[.slice _ _ _, .int .i64 _]) rfl) ?_
    refine op_pure (pv_of (v := .slice _ _ _) rfl) ?_
    refine op_pure (pv_of (v := .int .i64 _) rfl) ?_
    refine op_pure (pv_assign (v := .slice _ _ _) rfl) ?_
    refine op_pure (pv_assign (v := .int .i64 _) rfl) ?_
    refine xp_seq ?_
    refine xp_seq ?_
    refine xp_region rfl ?_
    refine op_pure (pv_move (v := .int .i64 _) rfl) ?_
    refine op_pure (pv_of (v := .bool _) rfl) ?_
    refine xp_condF rfl (rfl) ?_
    refine xp_skip ?_
    refine xp_region rfl ?_
    refine op_pure (pv_move (v := .slice _ _ _) rfl) ?_
    refine op_loadPA 3 (vs := [.slice _ _ _, .slice _ _ _]) rfl rfl rfl rfl rfl ?_
    refine op_pure (pv_move (v := .slice _ _ _) rfl) ?_
    refine op_pure (pv_build (zc := [_, _, _]) (vs := [(0, .agg #[.slice _ _ _, .slice _ _ _]), (1, .slice _ _ _)]) (cs := [_, _, _]) rfl rfl rfl rfl rfl rfl) ?_
    refine op_buildSlice (zc := [_, _, _]) (vs := [(0, .agg #[.slice _ _ _, .slice _ _ _, .slice _ _ _])]) (cs := [_, _, _]) rfl rfl rfl rfl rfl rfl rfl fun b75 hb75 => ?_
    refine wp_norm [_, _, _, _, _] rfl ?_
    refine op_appendR 2 K4 rfl rfl rfl (fun V => rdP V (i := 4) rfl) rfl rfl rfl rfl rfl rfl rfl rfl rfl (by omega) rfl (by rw [flat_len (enc := id) (m := 3) K6, K5.1]; simp; omega) fun a2 h2a E2a ha2 => ?_
    refine wp_norm [_, _, _, _, _] rfl ?_
    refine op_pure (pv_assign (v := .slice _ _ _) rfl) ?_
    refine xp_region rfl ?_
    refine op_pure (pv_move (v := .int .i64 _) rfl) ?_
    refine op_pure (pv_arith rfl (by omega)) ?_
    refine op_pure (pv_assign (v := .int .i64 _) rfl) ?_
    refine ⟨(i - 1, y2, hs ++ [⟨a1, listN (aloneM m tr a1) 6⟩], a2, cs ++ [[.slice HA a1.buttons.length cH, .slice OA a1.on.length cO, .slice A7 (listN (aloneM m tr a1) 6).length c7]]), ⟨rfl, rfl, trivial⟩, rfl, rfl, (Ext.trans (Ext.trans (Ext.trans E_i E6) E7) E2a), fun h3 E3 => ⟨⟨by omega, by simp; omega⟩, mem_one K3 ⟨H, rfl⟩, by rw [List.flatMap_append]; exact ha2, (Els.snoc (K5.ext TU.mono (Ext.trans (Ext.trans E6 E7) E2a)) (tu_of (RH.ext (Ext.trans E7 E2a)) (S7.ext E2a))).ext TU.mono E3, three_len K6 rfl⟩, by first | omega | (dsimp only; omega), ?_⟩
    repeat (first | exact off_base _ _ _ | refine off_upd (by decide) ?_ | refine off_updL rfl ?_ | refine off_mix rfl ?_)
  · skip
    have hi0 : i = 0 := by have := of_decide_eq_false hi; omega
    obtain ⟨p8, A8, n8, c8⟩ := a
    obtain rfl : n8 = hs.length := by have := AccR.len K4; rw [flat_len (enc := id) (m := 3) K6, K5.1] at this; dsimp only at this; omega
    dsimp only at *
    refine goes_pubO 2 rfl ?_
    intro g8 G8 P8
    refine goes_norm [_, _, _] rfl ?_
    have RU : Row g8 3 id A8 cs := ⟨K6, AccR.rd K4 P8⟩
    have EU : Els g8 TU hs cs := K5.ext TU.mono G8
    have X : ∀ x ∈ hs, HeardOK m x := fun x hx => heard_of M (K3 x hx).1 (K3 x hx).2 (alone_lv M tr x.hand)
    have hl4 : hs.length ≤ 5 := by omega
    have hex : explainsB m (pickF m tr) hs = true := (explains_iff M X).2 (fun x hx => (K3 x hx).2.symm)
    have hmem := susp_has htr hex
    have hsl := suspN_len m hs (faultsM m).length
    have eE : suspE m hs = 0 := by
      rw [suspE, heardE_of M hl4 X, if_neg (by decide), if_neg]
      intro h0
      rw [List.length_eq_zero_iff.1 h0] at hmem
      exact absurd hmem List.not_mem_nil
    obtain ⟨su, hsu⟩ : ∃ su, su = suspectsM m hs := ⟨_, rfl⟩
    have L2 := Suspects_ok rfl m hs (hlen_of hl4 M X) AB AQ AL AW A8 cB cQ cL cW c8 cs
    rw [eE, show suspL m hs = su by rw [suspL, if_pos eE, hsu]] at L2
    have sul : su.length < 2 ^ 40 := by rw [hsu, suspectsM]; omega
    rw [← hsu] at hmem
    refine xp_exit ?_
    refine xp_seq ?_
    refine xp_region rfl ?_
    refine op_loadPA 1 (vs := [.int .i64 _, .int .i64 _, .int .i64 _, .int .i64 _, .int .i64 _, .slice _ _ _, .slice _ _ _, .slice _ _ _, .slice _ _ _]) rfl rfl rfl rfl rfl ?_
    refine op_pure (pv_move (v := .slice _ _ _) rfl) ?_
    refine op_fn (caps := []) (vs := [.agg _, .slice _ _ _]) rfl rfl rfl (L2 g8 (RM.ext (Ext.trans (Ext.trans (Ext.trans (Ext.trans E3 E4) E5) E_i) G8)) M.wlen (RU.ext (Ext.refl _)) (EU.ext TU.mono (Ext.refl _))) ?_
    rintro _ h9 E9 ⟨_, rfl, A9, c9, rfl, S9⟩
    refine op_pure (pv_move (v := .tuple #[.slice _ _ _, .int .i64 _]) rfl) ?_
    refine op_pure (pv_of (v := .slice _ _ _) rfl) ?_
    refine op_pure (pv_of (v := .int .i64 _) rfl) ?_
    refine op_pure (pv_assign (v := .slice _ _ _) rfl) ?_
    refine op_pure (pv_assign (v := .int .i64 _) rfl) ?_
    refine xp_seq ?_
    refine xp_seq ?_
    refine xp_region rfl ?_
    refine op_pure (pv_move (v := .int .i64 _) rfl) ?_
    refine op_pure (pv_of (v := .bool _) rfl) ?_
    refine op_pure (pv_move (v := .bool _) rfl) ?_
    refine guard_yes rfl rfl ?_
    refine op_pure (pv_move (v := .slice _ _ _) rfl) ?_
    refine guard_yes rfl rfl ?_
    refine op_pure (pv_move (v := .int .i64 _) rfl) ?_
    refine guard_yes rfl rfl ?_
    refine op_fn (caps := []) (vs := [.slice _ _ _, .int .i64 _]) rfl rfl rfl (place_ok su tr _ _ h9 (S9.ext (Ext.refl _)) sul) ?_
    rintro _ h10 E10 ⟨z, rfl, hz⟩
    have hz0 := hz.2 hmem
    refine guard_yes rfl rfl ?_
    refine op_pure (pv_of (v := .bool _) rfl) ?_
    refine op_pure (pv_pickF rfl rfl (v := .bool _) rfl) ?_
    refine xp_condF rfl (decide_eq_false (by omega)) ?_
    refine xp_skip ?_
    refine xp_seq ?_
    refine xp_region rfl ?_
    refine op_pure (pv_assign (v := .int .i64 _) rfl) ?_
    refine xp_seq ?_
    refine xp_seq ?_
    refine xp_region rfl ?_
    refine op_pure (pv_assign (v := .int .i64 _) rfl) ?_
    refine xp_block ?_
    refine xp_loopB [2, 15, 16, 17, 18, 19, 20, 91, 92, 93, 94, 95, 96, 97, 98, 99, 100, 101, 102, 103, 104, 105, 106, 107, 108, 109, 110, 111, 112, 113, 114, 115, 116, 117, 118, 119, 120, 121, 122, 123, 124, 125, 126, 127, 128, 129, 130, 131, 132, 133, 134, 135, 136, 137, 138, 139, 140] 3 (α := Nat) (fun k => [(16, .int .i64 ((k : Int) - 1)), (15, .int .i64 ((suspK m hs k).length : Nat))]) (fun k => _) (fun k h_k => k ≤ nf + 1) (fun k => nf + 1 - k) (0) ⟨rfl, rfl, trivial⟩ (rfl) (Nat.zero_le _) ?_
    rintro k T3 h_k E_k J_k
    refine goes_norm [_, _, _] rfl ?_
    refine xp_seq ?_
    refine xp_seq ?_
    refine xp_region rfl ?_
    refine op_pure (pv_move (v := .int .i64 _) rfl) ?_
    refine op_pure (pv_move (v := .slice _ _ _) rfl) ?_
    refine op_pure (pv_len rfl rfl) ?_
    refine op_pure (pv_of (v := .bool _) rfl) ?_
    refine xp_cond rfl (fun hk => ?_) (fun hk => ?_)
    · skip
      have hkl : (k : Int) - 1 < nf := of_decide_eq_true hk
      have hkf : -1 ≤ (k : Int) - 1 ∧ (k : Int) - 1 < (faultsM m).length := ⟨by omega, by omega⟩
      obtain ⟨PP, hPP⟩ : ∃ PP : HeardP → Prop, PP = fun x => listN (aloneM m ((k : Int) - 1) x.hand) 6 = x.sounds := ⟨_, rfl⟩
      obtain ⟨bv, hbv⟩ : ∃ bv : Nat → Bool, ∀ j, bv j = true ↔ ∀ x ∈ hs.take j, PP x := ⟨fun j => @decide _ (Classical.propDecidable (∀ x ∈ hs.take j, PP x)), fun j => @decide_eq_true_iff _ (Classical.propDecidable _)⟩
      have b0 : bv 0 = true := (hbv 0).2 (fun x hx => by simp at hx)
      refine xp_skip ?_
      refine xp_seq ?_
      refine xp_block ?_
      refine xp_seq ?_
      refine xp_region rfl ?_
      refine op_pure (pv_assign (v := .bool _) rfl) ?_
      refine xp_seq ?_
      refine xp_seq ?_
      refine xp_region rfl ?_
      refine op_pure (pv_assign (v := .int .i64 _) rfl) ?_
      refine xp_block ?_
      refine xp_loopB [2, 17, 18, 19, 20, 97, 98, 99, 100, 101, 102, 103, 104, 105, 106, 107, 108, 109, 110, 111, 112, 113, 114, 115, 116, 117, 118, 119, 120, 121, 122, 123, 124, 125] 3 (α := Nat) (fun j => [(18, .int .i64 j), (17, .bool (bv j))]) (fun j => _) (fun j h_j => j ≤ hs.length) (fun j => hs.length - j) (0) ⟨rfl, boolE b0.symm, trivial⟩ (rfl) (Nat.zero_le _) ?_
      rintro j T4 h_j E_j J_j
      refine goes_norm [_, _, _] rfl ?_
      refine xp_seq ?_
      refine xp_seq ?_
      refine xp_region rfl ?_
      refine op_pure (pv_move (v := .int .i64 _) rfl) ?_
      refine op_pure (pv_move (v := .slice _ _ _) rfl) ?_
      refine op_pure (pv_len rfl rfl) ?_
      refine op_pure (pv_of (v := .bool _) rfl) ?_
      refine xp_cond rfl (fun hj => ?_) (fun hj => ?_)
      · skip
        have hjl : j < hs.length := ltI hj
        have H := (K3 _ (List.getElem_mem hjl)).1
        have hsx : hs[j].sounds.length < 2 ^ 40 := (hlen_of hl4 M X).2 _ (List.getElem_mem hjl) |>.2.2
        obtain ⟨hjc, B0, O0, U0, e0, ⟨HA, cH, rfl, r1⟩, ⟨OA, cO, rfl, r2⟩, ⟨XA, cX, rfl, r3⟩⟩ := (EU.ext TU.mono (Ext.trans (Ext.trans (Ext.trans E9 E10) E_k) E_j)).at hjl
        obtain ⟨g, off, hA, hc⟩ := (RU.ext (Ext.trans (Ext.trans (Ext.trans E9 E10) E_k) E_j)).at (by omega) hjc
        have hc : Cells h_j g (off + j * 3) [.slice HA hs[j].hand.buttons.length cH, .slice OA hs[j].hand.on.length cO, .slice XA hs[j].sounds.length cX] := by rw [← e0]; exact hc
        refine xp_skip ?_
        refine xp_seq ?_
        refine xp_block ?_
        refine xp_seq ?_
        refine xp_dw [] rfl rfl rfl ?_
        refine dw_load (i := 0) rfl (by decide +kernel) ?_
        refine op_loadPA 1 (vs := [.int .i64 _, .int .i64 _, .int .i64 _, .int .i64 _, .int .i64 _, .slice _ _ _, .slice _ _ _, .slice _ _ _, .slice _ _ _]) rfl rfl rfl rfl rfl ?_
        refine dw_pure (i := 1) rfl (by decide +kernel) (pv_move (v := .int .i64 _) rfl) ?_
        refine dw_pure (i := 2) rfl (by decide +kernel) (pv_move (v := .slice _ _ _) rfl) ?_
        refine dw_pure (i := 3) rfl (by decide +kernel) (pv_move (v := .int .i64 _) rfl) ?_
        refine dw_pure (i := 4) rfl (by decide +kernel) (pv_indexE (m := 3) rfl hA rfl rfl rfl (by omega) (by omega)) ?_
        refine dw_pure (i := 5) rfl (by decide +kernel) (pv_fieldAddr rfl rfl rfl rfl _ rfl) ?_
        refine dw_load (i := 6) rfl (by decide +kernel) ?_
        refine op_loadA rfl rfl rfl rfl (hc.part 0 2) ?_
        refine dw_last (i := 7) rfl (by decide +kernel) (by decide +kernel) ?_
        refine op_fn (caps := []) (vs := [.agg _, .int .i64 _, .agg _]) rfl rfl rfl (alone_ok rfl m M ((k : Int) - 1) hkf hs[j].hand H AB AQ AL AW HA OA cB cQ cL cW cH cO h_j (RM.ext (Ext.trans (Ext.trans (Ext.trans (Ext.trans (Ext.trans (Ext.trans (Ext.trans (Ext.trans E3 E4) E5) E_i) G8) E9) E10) E_k) E_j)) ⟨r1, r2⟩) ?_
        rintro _ h11 E11 ⟨_, rfl, A11, c11, rfl, S11⟩
        refine dw_pure (i := 8) rfl (by decide +kernel) (pv_move (v := .tuple #[.slice _ _ _, .int .i64 _]) rfl) ?_
        refine dw_pure (i := 9) rfl (by decide +kernel) (pv_of (v := .slice _ _ _) rfl) ?_
        refine dw_pure (i := 10) rfl (by decide +kernel) (pv_of (v := .int .i64 _) rfl) ?_
        refine dw_pure (i := 11) rfl (by decide +kernel) (pv_assign (v := .slice _ _ _) rfl) ?_
        refine dw_pure (i := 12) rfl (by decide +kernel) (pv_assign (v := .int .i64 _) rfl) ?_
        refine dw_end rfl ?_
        refine xp_seq ?_
        refine xp_seq ?_
        refine xp_region rfl ?_
        refine op_pure (pv_move (v := .int .i64 _) rfl) ?_
        refine op_pure (pv_of (v := .bool _) rfl) ?_
        refine xp_condF rfl (rfl) ?_
        refine xp_skip ?_
        refine xp_region rfl ?_
        refine op_pure (pv_move (v := .bool _) rfl) ?_
        refine op_pure (pv_move (v := .bool _) rfl) ?_
        rcases Bool.eq_false_or_eq_true (bv j) with hb | hb
        · skip
          refine guard_yes rfl hb ?_
          refine op_pure (pv_move (v := .slice _ _ _) rfl) ?_
          refine guard_yes rfl hb ?_
          refine op_pure (pv_move (v := .slice _ _ _) rfl) ?_
          refine guard_yes rfl hb ?_
          refine op_pure (pv_move (v := .int .i64 _) rfl) ?_
          refine guard_yes rfl hb ?_
          refine op_pure (pv_indexE (m := 3) rfl hA rfl rfl rfl (by omega) (by omega)) ?_
          refine guard_yes rfl hb ?_
          refine op_pure (pv_fieldAddr rfl rfl rfl rfl _ rfl) ?_
          refine guard_yes rfl hb ?_
          refine op_load (v := .slice _ _ _) rfl rfl ((hc.ext E11) 2 _ rfl) ?_
          refine guard_yes rfl hb ?_
          refine op_fn (caps := []) (vs := [.slice _ _ _, .slice _ _ _]) rfl rfl rfl (sameInts_ok (listN (aloneM m ((k : Int) - 1) hs[j].hand) 6) hs[j].sounds _ _ _ _ h11 S11 (r3.ext E11) (by have := listN_len (aloneM m ((k : Int) - 1) hs[j].hand) 6; omega)) ?_
          rintro _ h12 E12 rfl
          refine op_pure (pv_pickT rfl hb (v := .bool _) rfl) ?_
          refine op_pure (pv_assign (v := .bool _) rfl) ?_
          refine xp_region rfl ?_
          refine op_pure (pv_move (v := .int .i64 _) rfl) ?_
          refine op_pure (pv_arith rfl (by omega)) ?_
          refine op_pure (pv_assign (v := .int .i64 _) rfl) ?_
          refine ⟨j + 1, ⟨rfl, boolI (by rw [hbv, take_snoc hjl, decide_eq_true_iff]; subst hPP; exact ⟨fun e => mem_one ((hbv j).1 hb) e, fun h => h hs[j] (List.mem_append_right _ (List.mem_singleton.2 rfl))⟩), trivial⟩, rfl, rfl, (Ext.trans (Ext.trans E_j E11) E12), fun h3 E3 => hjl, by first | omega | (dsimp only; omega), ?_⟩
          repeat (first | exact off_base _ _ _ | refine off_upd (by decide) ?_ | refine off_updL rfl ?_ | refine off_mix rfl ?_)
        · skip
          refine guard_no rfl hb ?_
          refine guard_no rfl hb ?_
          refine guard_no rfl hb ?_
          refine guard_no rfl hb ?_
          refine guard_no rfl hb ?_
          refine guard_no rfl hb ?_
          refine guard_no rfl hb ?_
          refine op_pure (pv_pickF rfl hb (v := .bool _) rfl) ?_
          refine op_pure (pv_assign (v := .bool _) rfl) ?_
          refine xp_region rfl ?_
          refine op_pure (pv_move (v := .int .i64 _) rfl) ?_
          refine op_pure (pv_arith rfl (by omega)) ?_
          refine op_pure (pv_assign (v := .int .i64 _) rfl) ?_
          refine ⟨j + 1, ⟨rfl, boolI (by rw [hbv, take_snoc hjl]; exact ⟨fun h => (by cases h), fun h => absurd ((hbv j).2 (fun x hx => h x (List.mem_append_left _ hx))) (by rw [hb]; decide)⟩), trivial⟩, rfl, rfl, (Ext.trans E_j E11), fun h3 E3 => hjl, by first | omega | (dsimp only; omega), ?_⟩
          repeat (first | exact off_base _ _ _ | refine off_upd (by decide) ?_ | refine off_updL rfl ?_ | refine off_mix rfl ?_)
      · skip
        have hje : j = hs.length := by have := geI hj; omega
        subst hje
        have hbe : bv hs.length = explainsB m (pickF m ((k : Int) - 1)) hs := by
          rw [Bool.eq_iff_iff, hbv, List.take_length, explains_iff M X, hPP]
        refine xp_exit ?_
        refine xp_seq ?_
        refine xp_region rfl ?_
        refine op_pure (pv_move (v := .bool _) rfl) ?_
        refine xp_cond rfl (fun hv => ?_) (fun hv => ?_)
        · skip
          rw [hbe] at hv
          obtain ⟨ha1, ha2⟩ := suspK_at (m := m) (hs := hs) (k := k) (by omega) hv
          rw [← hsu] at ha1
          have hal := (List.getElem?_eq_some_iff.1 ha1).1
          have hae := (List.getElem?_eq_some_iff.1 ha1).2
          have f1 : decide (((suspK m hs k).length : Int) ≥ (su.length : Int)) = false := decide_eq_false (by omega)
          obtain ⟨g, off, hA, hc⟩ := (S9.ext (Ext.trans (Ext.trans E10 E_k) E_j)).at (by omega) hal
          rw [hae] at hc
          refine xp_seq ?_
          refine xp_seq ?_
          refine xp_region rfl ?_
          refine op_pure (pv_move (v := .int .i64 _) rfl) ?_
          refine op_pure (pv_move (v := .slice _ _ _) rfl) ?_
          refine op_pure (pv_len rfl rfl) ?_
          refine op_pure (pv_of (v := .bool _) rfl) ?_
          refine op_pure (pv_move (v := .bool _) rfl) ?_
          refine guard_yes rfl f1 ?_
          refine op_pure (pv_move (v := .slice _ _ _) rfl) ?_
          refine guard_yes rfl f1 ?_
          refine op_pure (pv_move (v := .int .i64 _) rfl) ?_
          refine guard_yes rfl f1 ?_
          refine op_pure (pv_indexE rfl hA rfl rfl rfl (by omega) (by omega)) ?_
          refine guard_yes rfl f1 ?_
          refine op_load (v := .int .i64 _) rfl rfl ((hc) 0 _ rfl) ?_
          refine guard_yes rfl f1 ?_
          refine op_pure (pv_move (v := .int .i64 _) rfl) ?_
          refine guard_yes rfl f1 ?_
          refine op_pure (pv_of (v := .bool _) rfl) ?_
          refine op_pure (pv_pickF rfl f1 (v := .bool _) rfl) ?_
          refine xp_condF rfl (by simp) ?_
          refine xp_skip ?_
          refine xp_region rfl ?_
          refine op_pure (pv_move (v := .int .i64 _) rfl) ?_
          refine op_pure (pv_arith rfl (by omega)) ?_
          refine op_pure (pv_assign (v := .int .i64 _) rfl) ?_
          refine xp_region rfl ?_
          refine op_pure (pv_move (v := .int .i64 _) rfl) ?_
          refine op_pure (pv_arith rfl (by omega)) ?_
          refine op_pure (pv_assign (v := .int .i64 _) rfl) ?_
          refine ⟨k + 1, ⟨intE (by omega), intE (by rw [ha2]; omega), trivial⟩, rfl, rfl, (Ext.trans E_k E_j), fun h3 E3 => by omega, by first | omega | (dsimp only; omega), ?_⟩
          repeat (first | exact off_base _ _ _ | refine off_upd (by decide) ?_ | refine off_updL rfl ?_ | refine off_mix rfl ?_)
        · skip
          rw [hbe] at hv
          have ha2 := suspK_no (m := m) (hs := hs) (k := k) (by omega) hv
          refine xp_skip ?_
          refine xp_region rfl ?_
          refine op_pure (pv_move (v := .int .i64 _) rfl) ?_
          refine op_pure (pv_arith rfl (by omega)) ?_
          refine op_pure (pv_assign (v := .int .i64 _) rfl) ?_
          refine ⟨k + 1, ⟨intE (by omega), intE (by rw [ha2]), trivial⟩, rfl, rfl, (Ext.trans E_k E_j), fun h3 E3 => by omega, by first | omega | (dsimp only; omega), ?_⟩
          repeat (first | exact off_base _ _ _ | refine off_upd (by decide) ?_ | refine off_updL rfl ?_ | refine off_mix rfl ?_)
    · skip
      have hke : k = nf + 1 := by have := of_decide_eq_false hk; omega
      have hkl : (suspK m hs k).length = su.length := by rw [hke, hnf, hsu]; rfl
      have f2 : (((suspK m hs k).length : Int) == (su.length : Int)) = true := by rw [hkl]; simp
      refine xp_exit ?_
      refine xp_seq ?_
      refine xp_region rfl ?_
      refine op_pure (pv_move (v := .int .i64 _) rfl) ?_
      refine op_pure (pv_move (v := .slice _ _ _) rfl) ?_
      refine op_pure (pv_len rfl rfl) ?_
      refine op_pure (pv_of (v := .bool _) rfl) ?_
      refine op_pure (pv_move (v := .bool _) rfl) ?_
      refine guard_yes rfl f2 ?_
      refine op_fn (caps := []) (vs := []) rfl rfl rfl (rod_sounding rfl h_k) ?_
      rintro _ h26 E26 rfl
      refine op_pure (pv_pickT rfl f2 (v := .bool _) rfl) ?_
      refine op_pure (pv_assign (v := .bool _) rfl) ?_
      refine xp_ret ?_
      exact ⟨rfl, fun V => (Ext.trans (Ext.trans (Ext.trans (Ext.trans (Ext.trans (Ext.trans (Ext.trans (Ext.trans (Ext.trans (Ext.trans (Ext.trans E1 E2) E3) E4) E5) E_i) G8) E9) E10) E_k) E26) (ext_wl V)), rfl⟩
end
end Go.Proofs.Ythphpbdmbmiaiaa
