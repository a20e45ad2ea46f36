/- An own logic over the model, its walks and its plain laws, joined of parts R19 GQ Rm Rn Ro R20 R21 U Uc Rp GS R23 R29 R30 R31 Rq R32 R25 R26 R33 R34 Rs R35 R36 R37 R38 GV GT GW GX R67 GU Rv R68 R69 R70 Ud R71 R72 R73 R53 R39 Rt R40 R41 R42 Ru R54 R74 R75 R55 R57 R22 R56. Conditions: as each theorem states. -/
import Derived.Test.YthphpbdmbmiaiaaLa4
import Derived.Test.YthphpbdmbmiaiaaLa1
import Derived.Test.YthphpbdmbmiaiaaLa2
import Derived.Conc.LeavingOf
import Derived.Test.YthphpbdmbmiaiaaLa3
import Derived.Test.YthphpbdmbmiaiaaRows
import Derived.Deep.Slices
import Derived.ProofKit
set_option linter.all false
namespace Go.Proofs.Ythphpbdmbmiaiaa
open Go Go.HL Go.Proofs Go.Wx Go.Rd
section
variable [Lvl]
set_option maxRecDepth 100000
theorem m0_hand : checkHandM mach0 ⟨[0, 1], []⟩ = 0 := by decide +kernel
theorem m0_lifts : liftsL mach0 ⟨[0, 1], []⟩ = [4, 3, 1, 0] := by decide +kernel
theorem m0_force : forceV mach0 ⟨[0, 1], []⟩ = 9 := by decide +kernel
theorem m0_hand2 : checkHandM mach0 ⟨[], [0]⟩ = 0 := by decide +kernel
theorem m0_chart : chartL mach0 [0] = [[0, 1, 2], [1]] := by decide +kernel
theorem m0_suspE : suspE mach0 (heard0 [0]) = 0 := by decide +kernel
theorem m0_suspL : suspL mach0 (heard0 [0]) = [1, 9] := by decide +kernel
theorem m0_testE : testE mach0 (heard0 [0]) = 0 := by decide +kernel
theorem m0_testN : testN mach0 (heard0 [0]) = 1 := by decide +kernel
theorem m0_testB : (testA mach0 (heard0 [0])).buttons = [1] := by decide +kernel
theorem m0_testO : (testA mach0 (heard0 [0])).on = [] := by decide +kernel
theorem m0_test : testA mach0 (heard0 [0]) = ⟨[1], []⟩ := by
 have h1 := m0_testB
 have h2 := m0_testO
 cases h : testA mach0 (heard0 [0]) with
 | mk b o => rw [h] at h1 h2; simp only at h1 h2; rw [h1, h2]
theorem hlen0 (l : List Int) (h : l.length < 2 ^ 40) : HLen (heard0 l) := ⟨by show 1 < 2 ^ 40; decide, fun x hx => by simp [heard0] at hx; subst hx; exact ⟨by show 1 < 2 ^ 40; decide, by show 0 < 2 ^ 40; decide, h⟩⟩
theorem rod_sounding (hph : Lvl.ph = true) (h : AH) : FnT Try.prog 28 #[] h (fun v _ => v = .bool true) := by
 have w0 : mach0.weights.length < 2 ^ 40 := by decide
 refine wK Try.func28 rfl Try.ntmps28 rfl ?_
 refine qD ?_
 refine qB rfl ?_
 refine qA (qE (v := .bool _) rfl) ?_
 refine qD ?_
 refine qB rfl ?_
 refine wI (caps := []) (vs := []) rfl rfl rfl (machine_ok h) ?_
 rintro _ h1 E1 ⟨AB1, AQ1, AL1, AW1, cB1, cQ1, cL1, cW1, rfl, M1⟩
 refine qZ (zc := [_]) (vs := [(0, .int .i64 _), (1, .int .i64 _)]) (cs := [_, _]) rfl rfl rfl rfl rfl rfl rfl fun b14 hb14 => ?_
 refine qH [_] rfl ?_
 refine wp_pub 0 rfl rfl ?_
 intro h2 E2 p2
 refine qH [_] rfl ?_
 refine wI (caps := []) (vs := [.slice _ _ _]) rfl rfl rfl (pressed_ok [0, 1] _ _ h2) ?_
 rintro _ h3 E3 rfl
 have R2 : Row h2 1 intC (some ⟨b14, 0, none⟩) [0, 1] := row_of_block (enc := intC) (m := 1) (l := [0, 1]) (fun _ _ => rfl) p2
 have H1 := Lifts_ok hph mach0 ⟨[0, 1], []⟩ AB1 AQ1 AL1 AW1 (some ⟨b14, 0, none⟩) none cB1 cQ1 cL1 cW1 2 0 h3 (M1.ext (zA E2 E3)) ⟨R2.ext E3, row_nil _ _⟩ w0 (by decide) (by decide)
 rw [m0_hand, m0_lifts] at H1
 refine wI (caps := []) (vs := [.agg #[.int .i64 _, .int .i64 _, .int .i64 _, .int .i64 _, .int .i64 _, .slice _ _ _, .slice _ _ _, .slice _ _ _, .slice _ _ _], .agg #[.slice _ _ _, .slice _ _ _]]) rfl rfl rfl (H1) ?_
 rintro _ h4 E4 ⟨_, rfl, A4, c4, rfl, S4⟩
 refine qA (qC (v := .tuple #[.slice _ _ _, .int .i64 _]) rfl) ?_
 refine qA (qN (v := .slice _ _ _) rfl) ?_
 refine qA (qN (v := .int .i64 _) rfl) ?_
 refine qA (qE (v := .slice _ _ _) rfl) ?_
 refine qA (qE (v := .int .i64 _) rfl) ?_
 refine qD ?_
 refine qB rfl ?_
 refine wI (caps := []) (vs := []) rfl rfl rfl (machine_ok h4) ?_
 rintro _ h5 E5 ⟨AB2, AQ2, AL2, AW2, cB2, cQ2, cL2, cW2, rfl, M2⟩
 refine qZ (zc := [_]) (vs := [(0, .int .i64 _), (1, .int .i64 _)]) (cs := [_, _]) rfl rfl rfl rfl rfl rfl rfl fun b21 hb21 => ?_
 refine qH [_, _] rfl ?_
 refine wp_pub 1 rfl rfl ?_
 intro h6 E6 p6
 refine qH [_, _] rfl ?_
 refine wI (caps := []) (vs := [.slice _ _ _]) rfl rfl rfl (pressed_ok [0, 1] _ _ h6) ?_
 rintro _ h7 E7 rfl
 have R6 : Row h6 1 intC (some ⟨b21, 0, none⟩) [0, 1] := row_of_block (enc := intC) (m := 1) (l := [0, 1]) (fun _ _ => rfl) p6
 have H2 := Force_ok hph mach0 ⟨[0, 1], []⟩ AB2 AQ2 AL2 AW2 (some ⟨b21, 0, none⟩) none cB2 cQ2 cL2 cW2 2 0 h7 (M2.ext (zA E6 E7)) ⟨R6.ext E7, row_nil _ _⟩ w0 (by decide) (by decide)
 rw [m0_hand, m0_force] at H2
 refine wI (caps := []) (vs := [.agg #[.int .i64 _, .int .i64 _, .int .i64 _, .int .i64 _, .int .i64 _, .slice _ _ _, .slice _ _ _, .slice _ _ _, .slice _ _ _], .agg #[.slice _ _ _, .slice _ _ _]]) rfl rfl rfl (H2) ?_
 rintro _ h8 E8 rfl
 refine qA (qC (v := .tuple #[.int .i64 _, .int .i64 _]) rfl) ?_
 refine qA (qN (v := .int .i64 _) rfl) ?_
 refine qA (qN (v := .int .i64 _) rfl) ?_
 refine qA (qE (v := .int .i64 _) rfl) ?_
 refine qA (qE (v := .int .i64 _) rfl) ?_
 refine qD ?_
 refine qB rfl ?_
 refine wI (caps := []) (vs := []) rfl rfl rfl (machine_ok h8) ?_
 rintro _ h9 E9 ⟨AB3, AQ3, AL3, AW3, cB3, cQ3, cL3, cW3, rfl, M3⟩
 refine qZ (zc := [_]) (vs := [(0, .int .i64 _)]) (cs := [_]) rfl rfl rfl rfl rfl rfl rfl fun b28 hb28 => ?_
 refine qH [_, _, _] rfl ?_
 refine wp_pub 2 rfl rfl ?_
 intro h10 E10 p10
 refine qH [_, _, _] rfl ?_
 have R10 : Row h10 1 intC (some ⟨b28, 0, none⟩) [0] := row_of_block (enc := intC) (m := 1) (l := [0]) (fun _ _ => rfl) p10
 have H3 := Chart_ok hph mach0 [0] AB3 AQ3 AL3 AW3 (some ⟨b28, 0, none⟩) cB3 cQ3 cL3 cW3 1 h10 (M3.ext E10) R10 w0 (by decide)
 rw [m0_hand2, m0_chart] at H3
 refine wI (caps := []) (vs := [.agg #[.int .i64 _, .int .i64 _, .int .i64 _, .int .i64 _, .int .i64 _, .slice _ _ _, .slice _ _ _, .slice _ _ _, .slice _ _ _], .slice _ _ _]) rfl rfl rfl (H3) ?_
 rintro _ h11 E11 ⟨_, rfl, S11⟩
 obtain ⟨cs11, A11, c11, rfl, R11, L11⟩ := SlX.els S11
 refine qA (qC (v := .tuple #[.slice _ _ _, .int .i64 _]) rfl) ?_
 refine qA (qN (v := .slice _ _ _) rfl) ?_
 refine qA (qN (v := .int .i64 _) rfl) ?_
 refine qA (qE (v := .slice _ _ _) rfl) ?_
 refine qA (qE (v := .int .i64 _) rfl) ?_
 refine qD ?_
 refine qB rfl ?_
 refine wI (caps := []) (vs := []) rfl rfl rfl (machine_ok h11) ?_
 rintro _ h12 E12 ⟨AB4, AQ4, AL4, AW4, cB4, cQ4, cL4, cW4, rfl, M4⟩
 refine qZ (zc := [_]) (vs := [(0, .int .i64 _)]) (cs := [_]) rfl rfl rfl rfl rfl rfl rfl fun b34 hb34 => ?_
 refine qH [_, _, _, _] rfl ?_
 refine wp_pub 3 rfl rfl ?_
 intro h13 E13 p13
 refine qH [_, _, _, _] rfl ?_
 have R13 : Row h13 1 intC (some ⟨b34, 0, none⟩) [0] := row_of_block (enc := intC) (m := 1) (l := [0]) (fun _ _ => rfl) p13
 refine wI (caps := []) (vs := [.slice _ _ _]) rfl rfl rfl (sounded_ok [0] _ _ h13 R13) ?_
 rintro _ h14 E14 ⟨UA4, cU4, cs4, rfl, RU4, EU4⟩
 have H4 := Suspects_ok hph mach0 (heard0 [0]) (hlen0 _ (by decide)) AB4 AQ4 AL4 AW4 UA4 cB4 cQ4 cL4 cW4 cU4 cs4 h14 (M4.ext (zA E13 E14)) w0 RU4 EU4
 rw [m0_suspE, m0_suspL] at H4
 refine wI (caps := []) (vs := [.agg #[.int .i64 _, .int .i64 _, .int .i64 _, .int .i64 _, .int .i64 _, .slice _ _ _, .slice _ _ _, .slice _ _ _, .slice _ _ _], .slice _ _ _]) rfl rfl rfl (H4) ?_
 rintro _ h15 E15 ⟨_, rfl, A15, c15, rfl, S15⟩
 refine qA (qC (v := .tuple #[.slice _ _ _, .int .i64 _]) rfl) ?_
 refine qA (qN (v := .slice _ _ _) rfl) ?_
 refine qA (qN (v := .int .i64 _) rfl) ?_
 refine qA (qE (v := .slice _ _ _) rfl) ?_
 refine qA (qE (v := .int .i64 _) rfl) ?_
 refine qD ?_
 refine qB rfl ?_
 refine wI (caps := []) (vs := []) rfl rfl rfl (machine_ok h15) ?_
 rintro _ h16 E16 ⟨AB5, AQ5, AL5, AW5, cB5, cQ5, cL5, cW5, rfl, M5⟩
 refine qZ (zc := [_]) (vs := [(0, .int .i64 _)]) (cs := [_]) rfl rfl rfl rfl rfl rfl rfl fun b41 hb41 => ?_
 refine qH [_, _, _, _, _] rfl ?_
 refine wp_pub 4 rfl rfl ?_
 intro h17 E17 p17
 refine qH [_, _, _, _, _] rfl ?_
 have R17 : Row h17 1 intC (some ⟨b41, 0, none⟩) [0] := row_of_block (enc := intC) (m := 1) (l := [0]) (fun _ _ => rfl) p17
 refine wI (caps := []) (vs := [.slice _ _ _]) rfl rfl rfl (sounded_ok [0] _ _ h17 R17) ?_
 rintro _ h18 E18 ⟨UA5, cU5, cs5, rfl, RU5, EU5⟩
 have H5 := Test_ok hph mach0 (heard0 [0]) (hlen0 _ (by decide)) AB5 AQ5 AL5 AW5 UA5 cB5 cQ5 cL5 cW5 cU5 cs5 h18 (M5.ext (zA E17 E18)) w0 RU5 EU5
 rw [m0_testE, m0_testN, m0_test] at H5
 refine wI (caps := []) (vs := [.agg #[.int .i64 _, .int .i64 _, .int .i64 _, .int .i64 _, .int .i64 _, .slice _ _ _, .slice _ _ _, .slice _ _ _, .slice _ _ _], .slice _ _ _]) rfl rfl rfl (H5) ?_
 rintro _ h19 E19 ⟨_, rfl, V19⟩
 obtain ⟨HA, OA, cH, cO, rfl, RH⟩ := HandV.open V19
 refine qA (qC (v := .tuple #[.agg #[.slice _ _ _, .slice _ _ _], .int .i64 _, .int .i64 _]) rfl) ?_
 refine qA (qN (v := .agg #[.slice _ _ _, .slice _ _ _]) rfl) ?_
 refine qA (qN (v := .int .i64 _) rfl) ?_
 refine qA (qN (v := .int .i64 _) rfl) ?_
 refine wW (cs := [_, _]) rfl rfl fun b9 hb9 => ?_
 refine qH [_, _, _, _, _, _] rfl ?_
 refine qY 5 (v := .agg #[.slice _ _ _, .slice _ _ _]) (vs := [_, _]) (c' := [_, _]) rfl rfl rfl rfl rfl rfl rfl rfl rfl ?_
 refine qH [_, _, _, _, _, _] rfl ?_
 refine qA (qE (v := .int .i64 _) rfl) ?_
 refine qA (qE (v := .int .i64 _) rfl) ?_
 refine qD ?_
 refine xp_dw [] rfl rfl rfl ?_
 refine qG (i := 0) rfl (by decide +kernel) (qC (v := .int .i64 _) rfl) ?_
 refine qG (i := 1) rfl (by decide +kernel) (qN (v := .bool _) rfl) ?_
 refine qG (i := 2) rfl (by decide +kernel) (qC (v := .bool _) rfl) ?_
 refine dw_pureG (i := 3) rfl (by decide +kernel) rfl rfl (qC (v := .int .i64 _) rfl) ?_
 refine dw_pureG (i := 4) rfl (by decide +kernel) rfl rfl (qN (v := .bool _) rfl) ?_
 refine qG (i := 5) rfl (by decide +kernel) (wO rfl rfl (v := .bool _) rfl) ?_
 refine qG (i := 6) rfl (by decide +kernel) (qC (v := .bool _) rfl) ?_
 refine dw_pureG (i := 7) rfl (by decide +kernel) rfl rfl (qC (v := .int .i64 _) rfl) ?_
 refine dw_pureG (i := 8) rfl (by decide +kernel) rfl rfl (qN (v := .bool _) rfl) ?_
 refine qG (i := 9) rfl (by decide +kernel) (wO rfl rfl (v := .bool _) rfl) ?_
 refine qG (i := 10) rfl (by decide +kernel) (qC (v := .bool _) rfl) ?_
 refine dw_pureG (i := 11) rfl (by decide +kernel) rfl rfl (qC (v := .int .i64 _) rfl) ?_
 refine dw_pureG (i := 12) rfl (by decide +kernel) rfl rfl (qN (v := .bool _) rfl) ?_
 refine qG (i := 13) rfl (by decide +kernel) (wO rfl rfl (v := .bool _) rfl) ?_
 refine qG (i := 14) rfl (by decide +kernel) (qC (v := .bool _) rfl) ?_
 refine dw_pureG (i := 15) rfl (by decide +kernel) rfl rfl (qC (v := .int .i64 _) rfl) ?_
 refine dw_pureG (i := 16) rfl (by decide +kernel) rfl rfl (qN (v := .bool _) rfl) ?_
 refine qG (i := 17) rfl (by decide +kernel) (wO rfl rfl (v := .bool _) rfl) ?_
 refine qG (i := 18) rfl (by decide +kernel) (qC (v := .bool _) rfl) ?_
 refine dw_pureG (i := 19) rfl (by decide +kernel) rfl rfl (qC (v := .int .i64 _) rfl) ?_
 refine dw_pureG (i := 20) rfl (by decide +kernel) rfl rfl (qN (v := .bool _) rfl) ?_
 refine qG (i := 21) rfl (by decide +kernel) (wO rfl rfl (v := .bool _) rfl) ?_
 refine qG (i := 22) rfl (by decide +kernel) (qC (v := .bool _) rfl) ?_
 refine dw_pureG (i := 23) rfl (by decide +kernel) rfl rfl (qC (v := .int .i64 _) rfl) ?_
 refine dw_pureG (i := 24) rfl (by decide +kernel) rfl rfl (qN (v := .bool _) rfl) ?_
 refine qG (i := 25) rfl (by decide +kernel) (wO rfl rfl (v := .bool _) rfl) ?_
 refine qG (i := 26) rfl (by decide +kernel) (qC (v := .bool _) rfl) ?_
 refine dw_pureG (i := 27) rfl (by decide +kernel) rfl rfl (qC (v := .slice _ _ _) rfl) ?_
 refine dw_lastH (i := 28) rfl (by decide +kernel) (by decide +kernel) rfl rfl ?_
 refine qZ (zc := [_]) (vs := [(0, .int .i64 _), (1, .int .i64 _), (2, .int .i64 _), (3, .int .i64 _)]) (cs := [_, _, _, _]) rfl rfl rfl rfl rfl rfl rfl fun b75 hb75 => ?_
 refine wJ [_, _, _, _, _, _, _] rfl ?_
 refine dw_pub 6 rfl ?_
 intro g1 F1 q1
 refine wJ [_, _, _, _, _, _, _] rfl ?_
 refine dw_lastH (i := 29) rfl (by decide +kernel) (by decide +kernel) rfl rfl ?_
 refine wI (caps := []) (vs := [.slice _ _ _, .slice _ _ _]) rfl rfl rfl (sameInts_ok [4, 3, 1, 0] [4, 3, 1, 0] _ _ _ _ g1 (S4.ext (zA (zA (zA (zA (zA (zA (zA (zA (zA (zA (zA (zA (zA (zA (zA E5 E6) E7) E8) E9) E10) E11) E12) E13) E14) E15) E16) E17) E18) E19) F1)) (row_of_block (enc := intC) (m := 1) (l := [4, 3, 1, 0]) (fun _ _ => rfl) q1) (by decide)) ?_
 rintro _ g2 F2 rfl
 refine qG (i := 30) rfl (by decide +kernel) (wO rfl rfl (v := .bool _) rfl) ?_
 refine qG (i := 31) rfl (by decide +kernel) (qC (v := .bool _) rfl) ?_
 refine dw_pureG (i := 32) rfl (by decide +kernel) rfl rfl (qC (v := .slice _ _ _) rfl) ?_
 refine dw_lastH (i := 33) rfl (by decide +kernel) (by decide +kernel) rfl rfl ?_
 refine qZ (zc := [_]) (vs := [(0, .int .i64 _), (1, .int .i64 _), (2, .int .i64 _)]) (cs := [_, _, _]) rfl rfl rfl rfl rfl rfl rfl fun b80 hb80 => ?_
 refine wJ [_, _, _, _, _, _, _, _] rfl ?_
 refine dw_lastH (i := 34) rfl (by decide +kernel) (by decide +kernel) rfl rfl ?_
 refine qZ (zc := [_]) (vs := [(0, .int .i64 _)]) (cs := [_]) rfl rfl rfl rfl rfl rfl rfl fun b81 hb81 => ?_
 refine wJ [_, _, _, _, _, _, _, _, _] rfl ?_
 refine dw_lastH (i := 35) rfl (by decide +kernel) (by decide +kernel) rfl rfl ?_
 refine qZ (zc := [_]) (vs := [(0, .slice _ _ _), (1, .slice _ _ _)]) (cs := [_, _]) rfl rfl rfl rfl rfl rfl rfl fun b82 hb82 => ?_
 refine wJ [_, _, _, _, _, _, _, _, _, _] rfl ?_
 refine dw_pub 7 rfl ?_
 intro g3 F3 q3
 refine wJ [_, _, _, _, _, _, _, _, _, _] rfl ?_
 refine dw_pub 8 rfl ?_
 intro g4 F4 q4
 refine wJ [_, _, _, _, _, _, _, _, _, _] rfl ?_
 refine dw_pub 9 rfl ?_
 intro g5 F5 q5
 refine wJ [_, _, _, _, _, _, _, _, _, _] rfl ?_
 have RL : Row g5 1 id (some ⟨b82, 0, none⟩) [[.slice (some ⟨b80, 0, none⟩) 3 3], [.slice (some ⟨b81, 0, none⟩) 1 1]] := row_of_block (enc := id) (m := 1) (l := [[.slice (some ⟨b80, 0, none⟩) 3 3], [.slice (some ⟨b81, 0, none⟩) 1 1]]) (fun x hx => by simp at hx; rcases hx with rfl | rfl <;> rfl) q5
 have EL : Els g5 TL [[0, 1, 2], [1]] [[.slice (some ⟨b80, 0, none⟩) 3 3], [.slice (some ⟨b81, 0, none⟩) 1 1]] := by
  refine ⟨rfl, fun i x c h1 h2 => ?_⟩
  match i, h1, h2 with
  | 0, h1, h2 => cases h1; cases h2; exact ⟨_, rfl, some ⟨b80, 0, none⟩, 3, rfl, (row_of_block (enc := intC) (m := 1) (l := [0, 1, 2]) (fun _ _ => rfl) q3).ext (zA F4 F5)⟩
  | 1, h1, h2 => cases h1; cases h2; exact ⟨_, rfl, some ⟨b81, 0, none⟩, 1, rfl, (row_of_block (enc := intC) (m := 1) (l := [1]) (fun _ _ => rfl) q4).ext F5⟩
  | i + 2, h1, h2 => simp at h1
 refine dw_lastH (i := 36) rfl (by decide +kernel) (by decide +kernel) rfl rfl ?_
 refine wI (caps := []) (vs := [.slice _ _ _, .slice _ _ _]) rfl rfl rfl (sameLists_ok [[0, 1, 2], [1]] [[0, 1, 2], [1]] _ _ _ _ cs11 _ g5 (R11.ext (zA (zA (zA (zA (zA (zA (zA (zA (zA (zA (zA (zA E12 E13) E14) E15) E16) E17) E18) E19) F1) F2) F3) F4) F5)) (L11.ext TL.mono (zA (zA (zA (zA (zA (zA (zA (zA (zA (zA (zA (zA E12 E13) E14) E15) E16) E17) E18) E19) F1) F2) F3) F4) F5)) RL EL (by decide) (by decide)) ?_
 rintro _ g6 F6 rfl
 refine qG (i := 37) rfl (by decide +kernel) (wO rfl rfl (v := .bool _) rfl) ?_
 refine qG (i := 38) rfl (by decide +kernel) (qC (v := .bool _) rfl) ?_
 refine dw_pureG (i := 39) rfl (by decide +kernel) rfl rfl (qC (v := .slice _ _ _) rfl) ?_
 refine dw_lastH (i := 40) rfl (by decide +kernel) (by decide +kernel) rfl rfl ?_
 refine qZ (zc := [_]) (vs := [(0, .int .i64 _), (1, .int .i64 _)]) (cs := [_, _]) rfl rfl rfl rfl rfl rfl rfl fun b87 hb87 => ?_
 refine wJ [_, _, _, _, _, _, _, _, _, _, _] rfl ?_
 refine dw_pub 10 rfl ?_
 intro g7 F7 q7
 refine wJ [_, _, _, _, _, _, _, _, _, _, _] rfl ?_
 refine dw_lastH (i := 41) rfl (by decide +kernel) (by decide +kernel) rfl rfl ?_
 refine wI (caps := []) (vs := [.slice _ _ _, .slice _ _ _]) rfl rfl rfl (sameInts_ok [1, 9] [1, 9] _ _ _ _ g7 (S15.ext (zA (zA (zA (zA (zA (zA (zA (zA (zA (zA E16 E17) E18) E19) F1) F2) F3) F4) F5) F6) F7)) (row_of_block (enc := intC) (m := 1) (l := [1, 9]) (fun _ _ => rfl) q7) (by decide)) ?_
 rintro _ g8 F8 rfl
 refine qG (i := 42) rfl (by decide +kernel) (wO rfl rfl (v := .bool _) rfl) ?_
 refine qG (i := 43) rfl (by decide +kernel) (qC (v := .bool _) rfl) ?_
 refine dw_loadG (i := 44) rfl (by decide +kernel) rfl rfl ?_
 refine wH 5 (vs := [.slice _ _ _, .slice _ _ _]) rfl rfl rfl rfl rfl ?_
 refine dw_effH (i := 45) rfl (by decide +kernel) rfl rfl ?_
 refine qZ (zc := [_]) (vs := [(0, .int .i64 _)]) (cs := [_]) rfl rfl rfl rfl rfl rfl rfl fun b92 hb92 => ?_
 refine ⟨ext_new hb92 _, ?_⟩
 refine wJ [_, _, _, _, _, _, _, _, _, _, _, _] rfl ?_
 refine dw_pub 11 rfl ?_
 intro g9 F9 q9
 refine wJ [_, _, _, _, _, _, _, _, _, _, _, _] rfl ?_
 refine dw_effH (i := 46) rfl (by decide +kernel) rfl rfl ?_
 refine wI (caps := []) (vs := [.slice _ _ _]) rfl rfl rfl (pressed_ok [1] _ _ g9) ?_
 rintro _ g10 F10 rfl
 refine ⟨ext_wlm F10 _, ?_⟩
 refine dw_lastH (i := 47) rfl (by decide +kernel) (by decide +kernel) rfl rfl ?_
 refine wI (caps := []) (vs := [.agg _, .agg _]) rfl rfl rfl (sameHands_ok ⟨[1], []⟩ ⟨[1], []⟩ _ _ _ _ _ _ _ _ g10 (RH.ext (zA (zA (zA (zA (zA (zA (zA (zA (zA F1 F2) F3) F4) F5) F6) F7) F8) F9) F10)) ⟨(row_of_block (enc := intC) (m := 1) (l := [1]) (fun _ _ => rfl) q9).ext F10, row_nil _ _⟩ (by decide) (by decide)) ?_
 rintro _ g11 F11 rfl
 refine qG (i := 48) rfl (by decide +kernel) (wO rfl rfl (v := .bool _) rfl) ?_
 refine qG (i := 49) rfl (by decide +kernel) (qE (v := .bool _) rfl) ?_
 refine dw_end rfl ?_
 refine qX ?_
 refine qO (vs := [_]) Try.results28 ⟨qL rfl rfl, trivial⟩ fun V => ?_
 exact ⟨(zA (zA (zA (zA (zA (zA (zA (zA (zA (zA (zA (zA (zA (zA (zA (zA (zA (zA (zA (zA (zA (zA (zA (zA (zA (zA (zA (zA (zA (zA E1 E2) E3) E4) E5) E6) E7) E8) E9) E10) E11) E12) E13) E14) E15) E16) E17) E18) E19) F1) F2) F3) F4) F5) F6) F7) F8) F9) F10) F11) (wA V)), rfl⟩
end
end Go.Proofs.Ythphpbdmbmiaiaa
namespace Go.HL
open Go
variable [Lvl]
section
variable {P : Program} {n : Nat} {d : Option Tmp} {ty : TypeId} {ps : String} {af : Array Edge} {S : Sl} {t u : TypeId} {x y : Operand}
theorem pv_remT {a b : Int} (hx : ev n S x = .int .i64 a) (hy : ev n S y = .int .i64 b) (hb : b ≠ 0) :
  pev P (execOp (ev n S) ⟨d, .binOp .rem t x y u, ty, ps, af, none⟩) = some (.value (.int .i64 (a.tmod b))) := by
 simp only [execOp, hx, hy, binOp, Op.intDiv, if_neg hb]
 rfl
theorem pv_quoT {a b c : Int} (hx : ev n S x = .int .i64 a) (hy : ev n S y = .int .i64 b) (hb : b ≠ 0) (hc : a.tdiv b = c) (h : -2 ^ 63 ≤ c ∧ c < 2 ^ 63) :
  pev P (execOp (ev n S) ⟨d, .binOp .quo t x y u, ty, ps, af, none⟩) = some (.value (.int .i64 c)) := by
 subst hc
 have e : IntKind.wrap .i64 (a.tdiv b) = a.tdiv b := IntWalk.i64_in _ ⟨by omega, by omega⟩
 simp only [execOp, hx, hy, binOp, Op.intDiv, if_neg hb, e]
 rfl
end
end Go.HL
namespace Go.Rd
open Go Go.HL Go.Wx
variable [Lvl]
def renL (s : Int → Int) (l : LinkP) : LinkP := ⟨s l.frm, s l.to, l.reg, l.lag⟩
structure RenR (s : Int → Int) (m m' : MachP) : Prop where
 rods : m'.rods = m.rods
 bd : ∀ r, 0 ≤ r → r < m.rods → 0 ≤ s r ∧ s r < m.rods
 btn : m'.buttons = m.buttons.map s
 links : m'.links = m.links.map (renL s)
structure Inv (s t : Int → Int) (n : Int) : Prop where
 sb : ∀ r, 0 ≤ r → r < n → 0 ≤ s r ∧ s r < n
 tb : ∀ r, 0 ≤ r → r < n → 0 ≤ t r ∧ t r < n
 ts : ∀ r, 0 ≤ r → r < n → t (s r) = r
 st : ∀ r, 0 ≤ r → r < n → s (t r) = r
end Go.Rd
namespace Go.Rd
open Go Go.HL Go.Wx
variable [Lvl]
end Go.Rd
namespace Go.Rd
open Go Go.HL Go.Wx
variable [Lvl]
end Go.Rd
namespace Go.Proofs.Ythphpbdmbmiaiaa
open Go Go.HL Go.Proofs Go.Wx Go.Rd
section
variable [Lvl]
set_option maxRecDepth 100000
theorem tmod_gt (x : Int) {n : Int} (hn : 0 < n) : -n < x.tmod n := by
 by_cases h : 0 ≤ x
 ·have := Int.tmod_nonneg n h; omega
 ·obtain ⟨y, rfl⟩ : ∃ y, x = -y := ⟨-x, by omega⟩
  rw [Int.neg_tmod]
  have := Int.tmod_lt_of_pos y hn
  omega
def turnI (x n : Int) : Int := if n < 2 then 0 else (x.tmod n + n).tmod n
theorem turnI_bd (x n : Int) : 0 ≤ turnI x n ∧ (1 ≤ n → turnI x n < n) := by
 unfold turnI
 split
 ·omega
 ·rename_i h
  have h1 : -n < x.tmod n := tmod_gt x (by omega)
  have h2 : 0 ≤ x.tmod n + n := by omega
  exact ⟨Int.tmod_nonneg n h2, fun _ => Int.tmod_lt_of_pos _ (by omega)⟩
theorem turnI_ne {f d n : Int} (hn : 2 ≤ n) (h0 : 0 ≤ f ∧ f < n) (hd : 1 ≤ d ∧ d < n) : turnI (f + d) n ≠ f := by
 unfold turnI
 rw [if_neg (by omega)]
 rw [Int.tmod_eq_emod_of_nonneg (by omega : 0 ≤ f + d), Int.tmod_eq_emod_of_nonneg (by have := Int.emod_nonneg (f + d) (by omega : n ≠ 0); omega)]
 rw [Int.add_emod_right, Int.emod_emod]
 intro e
 by_cases h : f + d < n
 ·rw [Int.emod_eq_of_lt (by omega) h] at e; omega
 ·have : (f + d) % n = f + d - n := by
   rw [← Int.sub_emod_right (f + d) n, Int.emod_eq_of_lt (by omega) (by omega)]
  omega
theorem Turn_ok (x n : Int) (hn : n ≤ 2 ^ 40) (h : AH) : FnT Try.prog 71 #[.int .i64 x, .int .i64 n] h (fun v _ => v = .int .i64 (turnI x n)) := by
 refine wK Try.func71 rfl Try.ntmps71 rfl ?_
 refine qD ?_
 refine qB rfl ?_
 refine qA (qE (v := .int .i64 _) rfl) ?_
 refine qD ?_
 refine qD ?_
 refine qB rfl ?_
 refine qA (qC (v := .int .i64 _) rfl) ?_
 refine qA (qN (v := .bool _) rfl) ?_
 refine qT rfl (fun ht => ?_) (fun ht => ?_)
 ·skip
  have ht' : n < 2 := of_decide_eq_true ht
  refine qD ?_
  refine qB rfl ?_
  refine qA (qE (v := .int .i64 _) rfl) ?_
  refine qX ?_
  refine qO (vs := [_]) Try.results71 ⟨qL rfl rfl, trivial⟩ fun V => ?_
  exact ⟨(wA V), intE (by rw [turnI, if_pos ht'])⟩
 ·skip
  have ht' : ¬ n < 2 := of_decide_eq_false ht
  have h1 : -n < x.tmod n := tmod_gt x (by omega)
  have h2 : x.tmod n < n := Int.tmod_lt_of_pos _ (by omega)
  refine qU ?_
  refine qD ?_
  refine qB rfl ?_
  refine qA (qC (v := .int .i64 _) rfl) ?_
  refine qA (qC (v := .int .i64 _) rfl) ?_
  refine qA (pv_remT rfl rfl (by omega)) ?_
  refine qA (qC (v := .int .i64 _) rfl) ?_
  refine qA (qS rfl (by omega)) ?_
  refine qA (qC (v := .int .i64 _) rfl) ?_
  refine qA (pv_remT rfl rfl (by omega)) ?_
  refine qA (qE (v := .int .i64 _) rfl) ?_
  refine qX ?_
  refine qO (vs := [_]) Try.results71 ⟨qL rfl rfl, trivial⟩ fun V => ?_
  exact ⟨(wA V), intE (by rw [turnI, if_neg ht'])⟩
structure Made (size pins links : Int) (m : MachP) : Prop where
 ok : MOK m
 rs : m.rods ≤ size
 ls : m.levers ≤ size
 bl : m.buttons.length ≤ 3
 pl : (m.pins.length : Int) ≤ pins
 ll : (m.links.length : Int) ≤ links
theorem mem_one {α : Type} {P : α → Prop} {l : List α} {z : α} (h : ∀ x ∈ l, P x) (hz : P z) : ∀ x ∈ l ++ [z], P x := fun x hx => by
 rcases List.mem_append.1 hx with hx | hx
 ·exact h x hx
 ·simp at hx; subst hx; exact hz
def CapM (v : Value) : Prop := ∀ AB AQ AL AW cB cQ cL cW m, v = machV AB AQ AL AW cB cQ cL cW m → m.pins.length ≤ cQ ∧ m.links.length ≤ cL
theorem capM_of {z1 z2 z3 z4 z5 zB zW : Value} {A A' : Option Addr} {n n' c c' : Nat} (h : n ≤ c) (h' : n' ≤ c') : CapM (.agg #[z1, z2, z3, z4, z5, zB, .slice A n c, .slice A' n' c', zW]) := by
 intro AB AQ AL AW cB cQ cL cW m e
 simp only [machV, Value.agg.injEq, Array.mk.injEq, List.cons.injEq, Value.slice.injEq] at e
 obtain ⟨_, _, _, _, _, _, ⟨_, e1, e2⟩, ⟨_, e3, e4⟩, _⟩ := e
 omega
set_option maxHeartbeats 8000000 in
theorem MachineOf_okC (b x : Nat) (size pins links : Int) (hs : 1 ≤ size ∧ size ≤ 6) (hp : 0 ≤ pins ∧ pins ≤ 8) (hl : 0 ≤ links ∧ links ≤ 4) (h : AH) :
  FnM Try.prog (.func (.func 18) #[] ([] : List Value).toArray) [.pointer (some ⟨b, 0, none⟩), .int .i64 size, .int .i64 pins, .int .i64 links] h [some (b, .cells #[.int .u64 (x : Int)] 97 (0, 0))]
  (fun v h' M' => ∃ (x' : Nat) (m : MachP), M' = [some (b, .cells #[.int .u64 (x' : Int)] 97 (0, 0))] ∧ MachV h' m v ∧ Made size pins links m ∧ CapM v) := by
 refine fnM_body rfl rfl Try.func18 rfl Try.ntmps18 rfl ?_
 refine qD ?_
 refine qB rfl ?_
 refine wW (cs := [_, _, _, _, _, _, _, _, _]) rfl rfl fun b8 hb8 => ?_
 refine qH [_, _] rfl ?_
 refine qD ?_
 refine qB rfl ?_
 refine qA (qC (v := .pointer (some ⟨b, 0, none⟩)) rfl) ?_
 refine qA (qC (v := .int .i64 _) rfl) ?_
 refine qA (pv_min rfl rfl) ?_
 refine op_fnMM [] [_] [_] (vs := [.pointer _, .int .i64 _, .int .i64 _]) rfl rfl rfl ((Within_ok b x 1 (min size 6) (by omega) (by omega) (by omega) h)) ?_
 rintro _ h1 _ E1 ⟨x1, r, rfl, rfl, r1, r2⟩
 refine qH [_, _] rfl ?_
 refine qA (qC (v := .pointer (some ⟨b, 0, none⟩)) rfl) ?_
 refine qA (qC (v := .int .i64 _) rfl) ?_
 refine qA (pv_min rfl rfl) ?_
 refine op_fnMM [] [_] [_] (vs := [.pointer _, .int .i64 _, .int .i64 _]) rfl rfl rfl ((Within_ok b x1 1 (min size 6) (by omega) (by omega) (by omega) h1)) ?_
 rintro _ h2 _ E2 ⟨x2, v, rfl, rfl, v1, v2⟩
 refine qH [_, _] rfl ?_
 refine qA (qC (v := .pointer (some ⟨b, 0, none⟩)) rfl) ?_
 refine op_fnMM [] [_] [_] (vs := [.pointer _, .int .i64 _]) rfl rfl rfl ((Upto_ok b x2 2 (by omega) h2)) ?_
 rintro _ h3 _ E3 ⟨x3, g, rfl, rfl, g1, g2⟩
 refine qH [_, _] rfl ?_
 refine qA (qC (v := .pointer (some ⟨b, 0, none⟩)) rfl) ?_
 refine op_fnMM [] [_] [_] (vs := [.pointer _, .int .i64 _, .int .i64 _]) rfl rfl rfl ((Within_ok b x3 2 12 (by omega) (by omega) (by omega) h3)) ?_
 rintro _ h4 _ E4 ⟨x4, t, rfl, rfl, t1, t2⟩
 refine qH [_, _] rfl ?_
 refine qA (pv_build (zc := [_, _, _, _, _, _, _, _, _]) (vs := [(0, .int .i64 _), (1, .int .i64 _), (2, .int .i64 _), (3, .int .i64 _)]) (cs := [_, _, _, _, _, _, _, _, _]) rfl rfl rfl rfl rfl rfl) ?_
 refine wW (cs := [_, _, _, _, _, _, _, _, _]) rfl rfl fun b9 hb9 => ?_
 refine qH [_, _, _] rfl ?_
 refine qY 2 (v := .agg #[.int .i64 _, .int .i64 _, .int .i64 _, .int .i64 _, .int .i64 _, .slice _ _ _, .slice _ _ _, .slice _ _ _, .slice _ _ _]) (vs := [_, _, _, _, _, _, _, _, _]) (c' := [_, _, _, _, _, _, _, _, _]) rfl rfl rfl rfl rfl rfl rfl rfl rfl ?_
 refine qH [_, _, _] rfl ?_
 refine qD ?_
 refine qB rfl ?_
 refine qA (qC (v := .pointer (some ⟨b, 0, none⟩)) rfl) ?_
 refine qA (qF rfl rfl rfl rfl 3 rfl) ?_
 refine qJ 2 (v := .int .i64 _) rfl rfl rfl rfl ?_
 refine qA (pv_quoT (c := t / 3) rfl rfl (by omega) (Int.tdiv_eq_ediv_of_nonneg (by omega)) (by omega)) ?_
 refine qA (pv_max rfl rfl) ?_
 refine op_fnMM [] [_] [_, _] (vs := [.pointer _, .int .i64 _, .int .i64 _]) rfl rfl rfl ((Within_ok b x4 1 (max 1 (t / 3)) (by omega) (by omega) (by omega) h4)) ?_
 rintro _ h5 _ E5 ⟨x5, o, rfl, rfl, o1, o2⟩
 refine qH [_, _, _] rfl ?_
 refine qA (qF rfl rfl rfl rfl 4 rfl) ?_
 refine qY 2 (v := .int .i64 _) (vs := [_]) (c' := [_, _, _, _, _, _, _, _, _]) rfl rfl rfl rfl rfl rfl rfl rfl rfl ?_
 refine qH [_, _, _] rfl ?_
 refine goes_more ?_
 refine qR [_, _, _, _] rfl ?_
 refine goes_more ?_
 refine qR [_, _, _, _, _] rfl ?_
 refine goes_more ?_
 refine qR [_, _, _, _, _, _] rfl ?_
 refine goes_more ?_
 refine qR [_, _, _, _, _, _, _] rfl ?_
 refine qD ?_
 refine qD ?_
 refine qB rfl ?_
 refine qA (qC (v := .pointer (some ⟨b, 0, none⟩)) rfl) ?_
 refine op_fnMM [] [_] [_, _, _, _, _, _] (vs := [.pointer _, .int .i64 _]) rfl rfl rfl ((Upto_ok b x5 3 (by omega) h5)) ?_
 rintro _ h6 _ E6 ⟨x6, i0, rfl, rfl, i01, i02⟩
 refine qH [_, _, _, _, _, _, _] rfl ?_
 refine qA (qE (v := .int .i64 _) rfl) ?_
 refine qQ ?_
 refine xp_loopL [10, 37, 38, 39, 40, 41, 42, 43, 44, 45, 46, 47, 48, 49, 50] 7 (α := Int × Nat × List Int × Acc) (fun ⟨i, y, bs, a⟩ => [(10, .int .i64 i)]) (fun ⟨i, y, bs, a⟩ L => ((L.set 0 (some (b, .cells #[.int .u64 (y : Int)] 97 (0, 0)))).set 2 (some (b9, .cells #[.int .i64 r, .int .i64 v, .int .i64 g, .int .i64 t, .int .i64 o, .slice a.A a.n a.c, .slice none 0 0, .slice none 0 0, .slice none 0 0] 28 (0, 0)))).set 3 (a.p)) (fun ⟨i, y, bs, a⟩ h_i => (0 ≤ i ∧ i + bs.length ≤ 3) ∧ (∀ z ∈ bs, 0 ≤ z ∧ z < r) ∧ AccR 3 1 (bs.flatMap intC) a) (fun ⟨i, y, bs, a⟩ => i.toNat) ((i0, x6, [], acc0)) ⟨rfl, trivial⟩ (rfl) (⟨⟨by omega, by simp; omega⟩, fun _ hz => absurd hz List.not_mem_nil, accR0⟩) ?_
 rintro ⟨i, y, bs, a⟩ T1 h_i E_i J_i
 refine qR [_, _, _, _, _, _, _] rfl ?_
 obtain ⟨⟨K1, K2⟩, K3, KA⟩ := J_i
 refine qD ?_
 refine qD ?_
 refine qB rfl ?_
 refine qA (qC (v := .int .i64 _) rfl) ?_
 refine qA (qN (v := .bool _) rfl) ?_
 refine qT rfl (fun ht => ?_) (fun ht => ?_)
 ·skip
  have hi : 0 < i := of_decide_eq_true ht
  refine qU ?_
  refine qD ?_
  refine qQ ?_
  refine xp_dw [true, false, false, false, false, false, false] rfl rfl rfl ?_
  refine qG (i := 0) rfl (by decide +kernel) (qF rfl rfl rfl rfl 5 rfl) ?_
  refine wE (i := 1) rfl (by decide +kernel) ?_
  refine qJ 2 (v := .slice _ _ _) rfl rfl rfl rfl ?_
  refine qG (i := 2) rfl (by decide +kernel) (qC (v := .pointer (some ⟨b, 0, none⟩)) rfl) ?_
  refine qG (i := 3) rfl (by decide +kernel) (qF rfl rfl rfl rfl 0 rfl) ?_
  refine wE (i := 4) rfl (by decide +kernel) ?_
  refine qJ 2 (v := .int .i64 _) rfl rfl rfl rfl ?_
  refine qG (i := 5) rfl (by decide +kernel) (qS rfl (by omega)) ?_
  refine dw_eff (i := 6) rfl (by decide +kernel) ?_
  refine op_fnMM [] [_] [_, _, _, _, _, _] (vs := [.pointer _, .int .i64 _]) rfl rfl rfl ((Upto_ok b y (r - 1) (by omega) h_i)) ?_
  rintro _ h7 _ E7 ⟨y2, z, rfl, rfl, z1, z2⟩
  refine ⟨ext_wlm E7 _, ?_⟩
  refine wJ [_, _, _, _, _, _, _] rfl ?_
  refine dw_eff (i := 7) rfl (by decide +kernel) ?_
  refine qZ (zc := [_]) (vs := [(0, .int .i64 _)]) (cs := [_]) rfl rfl rfl rfl rfl rfl rfl fun b48 hb48 => ?_
  refine ⟨ext_newM hb48 _, ?_⟩
  refine wJ [_, _, _, _, _, _, _, _] rfl ?_
  refine wV (i := 8) rfl (by decide +kernel) (by decide +kernel) ?_
  refine wY 3 KA rfl rfl rfl (fun V => rdP V (i := 7) rfl) rfl rfl rfl rfl rfl rfl rfl rfl rfl (by omega) rfl (by rw [wP (m := 1) (fun _ _ => rfl)]; simp; omega) fun a2 h2a E2a ha2 => ?_
  refine wJ [_, _, _, _, _, _, _, _] rfl ?_
  refine qG (i := 9) rfl (by decide +kernel) (qF rfl rfl rfl rfl 5 rfl) ?_
  refine wV (i := 10) rfl (by decide +kernel) (by decide +kernel) ?_
  refine qY 2 (v := .slice _ _ _) (vs := [_]) (c' := [_, _, _, _, _, _, _, _, _]) rfl rfl rfl rfl rfl rfl rfl rfl rfl ?_
  refine wJ [_, _, _, _, _, _, _, _] rfl ?_
  refine dw_end rfl ?_
  refine qB rfl ?_
  refine qA (qC (v := .int .i64 _) rfl) ?_
  refine qA (qS rfl (by omega)) ?_
  refine qA (qE (v := .int .i64 _) rfl) ?_
  refine ⟨(i - 1, y2, bs ++ [z], a2), ⟨rfl, trivial⟩, rfl, rfl, (zA (zA E_i E7) E2a), fun h3 E3 => ⟨⟨by omega, by simp; omega⟩, mem_one K3 ⟨z1, by omega⟩, by rw [List.flatMap_append]; exact ha2⟩, by first | omega | (dsimp only; omega), ?_⟩
  repeat (first | exact qW _ _ _ | refine wB (by decide) ?_ | refine qV rfl ?_ | refine wD rfl ?_)
 ·skip
  have hi0 : i = 0 := by have := of_decide_eq_false ht; omega
  obtain ⟨pB, AB, nB, cB⟩ := a
  obtain rfl : nB = bs.length := by have := AccR.len KA; rw [wP (m := 1) (fun _ _ => rfl)] at this; dsimp only at this; omega
  dsimp only at *
  refine goes_pubO 3 rfl ?_
  intro gB GB PB
  refine qR [_, _, _, _, _, _, _] rfl ?_
  have RB : Row gB 1 intC AB bs := ⟨fun _ _ => rfl, AccR.rd KA PB⟩
  refine wT ?_
  refine qD ?_
  refine qD ?_
  refine qB rfl ?_
  refine qA (qC (v := .pointer (some ⟨b, 0, none⟩)) rfl) ?_
  refine qA (qC (v := .int .i64 _) rfl) ?_
  refine op_fnMM [] [_] [_, _, _, _, _, _] (vs := [.pointer _, .int .i64 _]) rfl rfl rfl ((Upto_ok b y pins (by omega) gB)) ?_
  rintro _ h8 _ E8 ⟨x8, j0, rfl, rfl, j01, j02⟩
  refine qH [_, _, _, _, _, _, _] rfl ?_
  refine qA (qE (v := .int .i64 _) rfl) ?_
  refine qQ ?_
  refine xp_loopL [11, 54, 55, 56, 57, 58, 59, 60, 61, 62, 63, 64, 65, 66, 67, 68, 69, 70, 71, 72, 73, 74, 75, 76, 77, 78] 7 (α := Int × Nat × List PinP × Acc) (fun ⟨j, y, qs, a⟩ => [(11, .int .i64 j)]) (fun ⟨j, y, qs, a⟩ L => ((L.set 0 (some (b, .cells #[.int .u64 (y : Int)] 97 (0, 0)))).set 2 (some (b9, .cells #[.int .i64 r, .int .i64 v, .int .i64 g, .int .i64 t, .int .i64 o, .slice AB bs.length cB, .slice a.A a.n a.c, .slice none 0 0, .slice none 0 0] 28 (0, 0)))).set 4 (a.p)) (fun ⟨j, y, qs, a⟩ h_j => (0 ≤ j ∧ j + qs.length ≤ pins) ∧ (∀ p ∈ qs, (0 ≤ p.rod ∧ p.rod < r) ∧ (0 ≤ p.lever ∧ p.lever < v) ∧ (0 ≤ p.lag ∧ p.lag ≤ t)) ∧ AccR 36 3 (qs.flatMap pinC) a) (fun ⟨j, y, qs, a⟩ => j.toNat) ((j0, x8, [], acc0)) ⟨rfl, trivial⟩ (rfl) (⟨⟨by omega, by simp; omega⟩, fun _ hz => absurd hz List.not_mem_nil, accR0⟩) ?_
  rintro ⟨j, y, qs, a⟩ T3 h_j E_j J_j
  refine qR [_, _, _, _, _, _, _] rfl ?_
  obtain ⟨⟨L1, L2⟩, L3, KA⟩ := J_j
  refine qD ?_
  refine qD ?_
  refine qB rfl ?_
  refine qA (qC (v := .int .i64 _) rfl) ?_
  refine qA (qN (v := .bool _) rfl) ?_
  refine qT rfl (fun hu => ?_) (fun hu => ?_)
  ·skip
   have hj : 0 < j := of_decide_eq_true hu
   refine qU ?_
   refine qD ?_
   refine qQ ?_
   refine xp_dw [true, false, false, false, false, false, false] rfl rfl rfl ?_
   refine qG (i := 0) rfl (by decide +kernel) (qF rfl rfl rfl rfl 6 rfl) ?_
   refine wE (i := 1) rfl (by decide +kernel) ?_
   refine qJ 2 (v := .slice _ _ _) rfl rfl rfl rfl ?_
   refine qG (i := 2) rfl (by decide +kernel) (qC (v := .pointer (some ⟨b, 0, none⟩)) rfl) ?_
   refine qG (i := 3) rfl (by decide +kernel) (qF rfl rfl rfl rfl 0 rfl) ?_
   refine wE (i := 4) rfl (by decide +kernel) ?_
   refine qJ 2 (v := .int .i64 _) rfl rfl rfl rfl ?_
   refine qG (i := 5) rfl (by decide +kernel) (qS rfl (by omega)) ?_
   refine qG (i := 7) rfl (by decide +kernel) (qC (v := .pointer (some ⟨b, 0, none⟩)) rfl) ?_
   refine qG (i := 8) rfl (by decide +kernel) (qF rfl rfl rfl rfl 1 rfl) ?_
   refine wE (i := 9) rfl (by decide +kernel) ?_
   refine qJ 2 (v := .int .i64 _) rfl rfl rfl rfl ?_
   refine qG (i := 10) rfl (by decide +kernel) (qS rfl (by omega)) ?_
   refine qG (i := 12) rfl (by decide +kernel) (qC (v := .pointer (some ⟨b, 0, none⟩)) rfl) ?_
   refine qG (i := 13) rfl (by decide +kernel) (qF rfl rfl rfl rfl 3 rfl) ?_
   refine wE (i := 14) rfl (by decide +kernel) ?_
   refine qJ 2 (v := .int .i64 _) rfl rfl rfl rfl ?_
   refine qG (i := 15) rfl (by decide +kernel) (pv_quoT (c := t / 2) rfl rfl (by omega) (Int.tdiv_eq_ediv_of_nonneg (by omega)) (by omega)) ?_
   refine dw_eff (i := 6) rfl (by decide +kernel) ?_
   refine op_fnMM [] [_] [_, _, _, _, _, _] (vs := [.pointer _, .int .i64 _]) rfl rfl rfl ((Upto_ok b y (r - 1) (by omega) h_j)) ?_
   rintro _ h9 _ E9 ⟨y2, z, rfl, rfl, z1, z2⟩
   refine ⟨ext_wlm E9 _, ?_⟩
   refine wJ [_, _, _, _, _, _, _] rfl ?_
   refine dw_eff (i := 11) rfl (by decide +kernel) ?_
   refine op_fnMM [] [_] [_, _, _, _, _, _] (vs := [.pointer _, .int .i64 _]) rfl rfl rfl ((Upto_ok b y2 (v - 1) (by omega) h9)) ?_
   rintro _ h10 _ E10 ⟨y3, w, rfl, rfl, w1, w2⟩
   refine ⟨ext_wlm E10 _, ?_⟩
   refine wJ [_, _, _, _, _, _, _] rfl ?_
   refine dw_eff (i := 16) rfl (by decide +kernel) ?_
   refine op_fnMM [] [_] [_, _, _, _, _, _] (vs := [.pointer _, .int .i64 _]) rfl rfl rfl ((Upto_ok b y3 (t / 2) (by omega) h10)) ?_
   rintro _ h11 _ E11 ⟨y4, e, rfl, rfl, e1, e2⟩
   refine ⟨ext_wlm E11 _, ?_⟩
   refine wJ [_, _, _, _, _, _, _] rfl ?_
   refine qG (i := 17) rfl (by decide +kernel) (pv_build (zc := [_, _, _]) (vs := [(0, .int .i64 _), (1, .int .i64 _), (2, .int .i64 _)]) (cs := [_, _, _]) rfl rfl rfl rfl rfl rfl) ?_
   refine dw_eff (i := 18) rfl (by decide +kernel) ?_
   refine qZ (zc := [_, _, _]) (vs := [(0, .agg #[.int .i64 _, .int .i64 _, .int .i64 _])]) (cs := [_, _, _]) rfl rfl rfl rfl rfl rfl rfl fun b76 hb76 => ?_
   refine ⟨ext_newM hb76 _, ?_⟩
   refine wJ [_, _, _, _, _, _, _, _] rfl ?_
   refine wV (i := 19) rfl (by decide +kernel) (by decide +kernel) ?_
   refine wY 4 KA rfl rfl rfl (fun V => rdP V (i := 7) rfl) rfl rfl rfl rfl rfl rfl rfl rfl rfl (by omega) rfl (by rw [wP (m := 3) (fun _ _ => rfl)]; simp; omega) fun a2 h4a E4a ha2 => ?_
   refine wJ [_, _, _, _, _, _, _, _] rfl ?_
   refine qG (i := 20) rfl (by decide +kernel) (qF rfl rfl rfl rfl 6 rfl) ?_
   refine wV (i := 21) rfl (by decide +kernel) (by decide +kernel) ?_
   refine qY 2 (v := .slice _ _ _) (vs := [_]) (c' := [_, _, _, _, _, _, _, _, _]) rfl rfl rfl rfl rfl rfl rfl rfl rfl ?_
   refine wJ [_, _, _, _, _, _, _, _] rfl ?_
   refine dw_end rfl ?_
   refine qB rfl ?_
   refine qA (qC (v := .int .i64 _) rfl) ?_
   refine qA (qS rfl (by omega)) ?_
   refine qA (qE (v := .int .i64 _) rfl) ?_
   refine ⟨(j - 1, y4, qs ++ [⟨z, w, e⟩], a2), ⟨rfl, trivial⟩, rfl, rfl, (zA (zA (zA (zA E_j E9) E10) E11) E4a), fun h3 E3 => ⟨⟨by omega, by simp; omega⟩, mem_one L3 ⟨⟨z1, by show z < r; omega⟩, ⟨w1, by show w < v; omega⟩, ⟨e1, by show e ≤ t; omega⟩⟩, by rw [List.flatMap_append]; exact ha2⟩, by first | omega | (dsimp only; omega), ?_⟩
   repeat (first | exact qW _ _ _ | refine wB (by decide) ?_ | refine qV rfl ?_ | refine wD rfl ?_)
  ·skip
   have hj0 : j = 0 := by have := of_decide_eq_false hu; omega
   obtain ⟨pP, AQ, nP, cQ⟩ := a
   obtain rfl : nP = qs.length := by have := AccR.len KA; rw [wP (m := 3) (fun _ _ => rfl)] at this; dsimp only at this; omega
   dsimp only at *
   have hcQ : qs.length ≤ cQ := AccP.cap KA (by omega)
   refine goes_pubO 4 rfl ?_
   intro gP GP PP
   refine qR [_, _, _, _, _, _, _] rfl ?_
   have RP : Row gP 3 pinC AQ qs := ⟨fun _ _ => rfl, AccR.rd KA PP⟩
   refine wT ?_
   refine xp_cutB [12, 13, 79, 80, 81, 82, 83, 84, 85, 86, 87, 88, 89, 90, 91, 92, 93, 94, 95, 96, 97, 98, 99, 100, 101, 102, 103, 104, 105, 106, 107, 108, 109, 110, 111, 112, 113, 114, 115, 116, 117, 118, 119, 120, 121, 122, 123, 124, 125] 7 (α := Nat × List LinkP × Acc) (fun ⟨y, ls, a⟩ => []) (fun ⟨y, ls, a⟩ L => ((L.set 0 (some (b, .cells #[.int .u64 (y : Int)] 97 (0, 0)))).set 2 (some (b9, .cells #[.int .i64 r, .int .i64 v, .int .i64 g, .int .i64 t, .int .i64 o, .slice AB bs.length cB, .slice AQ qs.length cQ, .slice a.A a.n a.c, .slice none 0 0] 28 (0, 0)))).set 5 (a.p)) (fun ⟨y, ls, a⟩ h_y => (ls.length : Int) ≤ links ∧ (∀ p ∈ ls, (0 ≤ p.frm ∧ p.frm < r) ∧ (0 ≤ p.to ∧ p.to < r) ∧ p.frm ≠ p.to ∧ (-1 ≤ p.reg ∧ p.reg < g) ∧ (1 ≤ p.lag ∧ p.lag ≤ t)) ∧ AccR 39 4 (ls.flatMap linkC) a) ?_ ?_
   ·skip
    refine qD ?_
    refine qB rfl ?_
    refine qA (qC (v := .pointer (some ⟨b, 0, none⟩)) rfl) ?_
    refine qA (qC (v := .int .i64 _) rfl) ?_
    refine op_fnMM [] [_] [_, _, _, _, _, _] (vs := [.pointer _, .int .i64 _]) rfl rfl rfl ((Upto_ok b y links (by omega) gP)) ?_
    rintro _ h12 _ E12 ⟨x12, k0, rfl, rfl, k01, k02⟩
    refine qH [_, _, _, _, _, _, _] rfl ?_
    refine qA (qE (v := .int .i64 _) rfl) ?_
    refine qQ ?_
    refine xp_loopL [12, 13, 82, 83, 84, 85, 86, 87, 88, 89, 90, 91, 92, 93, 94, 95, 96, 97, 98, 99, 100, 101, 102, 103, 104, 105, 106, 107, 108, 109, 110, 111, 112, 113, 114, 115, 116, 117, 118, 119, 120, 121, 122, 123, 124, 125] 7 (α := Int × Nat × List LinkP × Acc) (fun ⟨k, y, ls, a⟩ => [(12, .int .i64 k)]) (fun ⟨k, y, ls, a⟩ L => ((L.set 0 (some (b, .cells #[.int .u64 (y : Int)] 97 (0, 0)))).set 2 (some (b9, .cells #[.int .i64 r, .int .i64 v, .int .i64 g, .int .i64 t, .int .i64 o, .slice AB bs.length cB, .slice AQ qs.length cQ, .slice a.A a.n a.c, .slice none 0 0] 28 (0, 0)))).set 5 (a.p)) (fun ⟨k, y, ls, a⟩ h_k => (0 ≤ k ∧ k + ls.length ≤ links) ∧ (∀ p ∈ ls, (0 ≤ p.frm ∧ p.frm < r) ∧ (0 ≤ p.to ∧ p.to < r) ∧ p.frm ≠ p.to ∧ (-1 ≤ p.reg ∧ p.reg < g) ∧ (1 ≤ p.lag ∧ p.lag ≤ t)) ∧ AccR 39 4 (ls.flatMap linkC) a) (fun ⟨k, y, ls, a⟩ => k.toNat) ((k0, x12, [], acc0)) ⟨rfl, trivial⟩ (rfl) (⟨⟨by omega, by simp; omega⟩, fun _ hz => absurd hz List.not_mem_nil, accR0⟩) ?_
    rintro ⟨k, y, ls, a⟩ T6 h_k E_k J_k
    refine qR [_, _, _, _, _, _, _] rfl ?_
    obtain ⟨⟨N1, N2⟩, N3, KA⟩ := J_k
    refine qD ?_
    refine qD ?_
    refine qB rfl ?_
    refine qA (qC (v := .int .i64 _) rfl) ?_
    refine qA (qN (v := .bool _) rfl) ?_
    refine qA (qC (v := .bool _) rfl) ?_
    rcases Bool.eq_false_or_eq_true (decide (k > 0)) with hk | hk
    ·skip
     have hk0 : k > 0 := of_decide_eq_true hk
     refine qI rfl hk ?_
     refine qA (qF rfl rfl rfl rfl 0 rfl) ?_
     refine qI rfl hk ?_
     refine qJ 2 (v := .int .i64 _) rfl rfl rfl rfl ?_
     refine qI rfl hk ?_
     refine qA (qN (v := .bool _) rfl) ?_
     refine qA (wO rfl hk (v := .bool _) rfl) ?_
     refine qT rfl (fun hr => ?_) (fun hr => ?_)
     ·skip
      have hr1 : r > 1 := of_decide_eq_true hr
      refine qU ?_
      refine qD ?_
      refine qQ ?_
      refine qD ?_
      refine xp_dw [true, false, false, false, false, false, false] rfl rfl rfl ?_
      refine qG (i := 0) rfl (by decide +kernel) (qC (v := .pointer (some ⟨b, 0, none⟩)) rfl) ?_
      refine qG (i := 1) rfl (by decide +kernel) (qF rfl rfl rfl rfl 0 rfl) ?_
      refine wE (i := 2) rfl (by decide +kernel) ?_
      refine qJ 2 (v := .int .i64 _) rfl rfl rfl rfl ?_
      refine qG (i := 3) rfl (by decide +kernel) (qS rfl (by omega)) ?_
      refine qG (i := 5) rfl (by decide +kernel) (qC (v := .pointer (some ⟨b, 0, none⟩)) rfl) ?_
      refine qG (i := 6) rfl (by decide +kernel) (qF rfl rfl rfl rfl 2 rfl) ?_
      refine wE (i := 7) rfl (by decide +kernel) ?_
      refine qJ 2 (v := .int .i64 _) rfl rfl rfl rfl ?_
      refine qG (i := 8) rfl (by decide +kernel) (qS rfl (by omega)) ?_
      refine qG (i := 10) rfl (by decide +kernel) (qC (v := .pointer (some ⟨b, 0, none⟩)) rfl) ?_
      refine qG (i := 11) rfl (by decide +kernel) (qF rfl rfl rfl rfl 3 rfl) ?_
      refine wE (i := 12) rfl (by decide +kernel) ?_
      refine qJ 2 (v := .int .i64 _) rfl rfl rfl rfl ?_
      refine qG (i := 13) rfl (by decide +kernel) (pv_quoT (c := t / 3) rfl rfl (by omega) (Int.tdiv_eq_ediv_of_nonneg (by omega)) (by omega)) ?_
      refine qG (i := 14) rfl (by decide +kernel) (pv_max rfl rfl) ?_
      refine dw_eff (i := 4) rfl (by decide +kernel) ?_
      refine op_fnMM [] [_] [_, _, _, _, _, _] (vs := [.pointer _, .int .i64 _]) rfl rfl rfl ((Upto_ok b y (r - 1) (by omega) h_k)) ?_
      rintro _ h13 _ E13 ⟨y2, z, rfl, rfl, z1, z2⟩
      refine ⟨ext_wlm E13 _, ?_⟩
      refine wJ [_, _, _, _, _, _, _] rfl ?_
      refine dw_eff (i := 9) rfl (by decide +kernel) ?_
      refine op_fnMM [] [_] [_, _, _, _, _, _] (vs := [.pointer _, .int .i64 _, .int .i64 _]) rfl rfl rfl ((Within_ok b y2 (-1) (g - 1) (by omega) (by omega) (by omega) h13)) ?_
      rintro _ h14 _ E14 ⟨y3, e, rfl, rfl, e1, e2⟩
      refine ⟨ext_wlm E14 _, ?_⟩
      refine wJ [_, _, _, _, _, _, _] rfl ?_
      refine wV (i := 15) rfl (by decide +kernel) (by decide +kernel) ?_
      refine op_fnMM [] [_] [_, _, _, _, _, _] (vs := [.pointer _, .int .i64 _, .int .i64 _]) rfl rfl rfl ((Within_ok b y3 1 (max 1 (t / 3)) (by omega) (by omega) (by omega) h14)) ?_
      rintro _ h15 _ E15 ⟨y4, w, rfl, rfl, w1, w2⟩
      refine wJ [_, _, _, _, _, _, _] rfl ?_
      refine qG (i := 16) rfl (by decide +kernel) (pv_build (zc := [_, _, _, _]) (vs := [(0, .int .i64 _), (2, .int .i64 _), (3, .int .i64 _)]) (cs := [_, _, _, _]) rfl rfl rfl rfl rfl rfl) ?_
      refine dw_eff (i := 17) rfl (by decide +kernel) ?_
      refine wW (cs := [_, _, _, _]) rfl rfl fun b13 hb13 => ?_
      refine ⟨ext_newM hb13 _, ?_⟩
      refine wJ [_, _, _, _, _, _, _, _] rfl ?_
      refine wV (i := 18) rfl (by decide +kernel) (by decide +kernel) ?_
      refine qY 7 (v := .agg #[.int .i64 _, .int .i64 _, .int .i64 _, .int .i64 _]) (vs := [_, _, _, _]) (c' := [_, _, _, _]) rfl rfl rfl rfl rfl rfl rfl rfl rfl ?_
      refine wJ [_, _, _, _, _, _, _, _] rfl ?_
      refine dw_end rfl ?_
      refine qD ?_
      refine xp_dw [true, false, false, false, false, false, false, false] rfl rfl rfl ?_
      refine qG (i := 0) rfl (by decide +kernel) (qF rfl rfl rfl rfl 0 rfl) ?_
      refine wE (i := 1) rfl (by decide +kernel) ?_
      refine qJ 7 (v := .int .i64 _) rfl rfl rfl rfl ?_
      refine qG (i := 2) rfl (by decide +kernel) (qC (v := .pointer (some ⟨b, 0, none⟩)) rfl) ?_
      refine qG (i := 3) rfl (by decide +kernel) (qF rfl rfl rfl rfl 0 rfl) ?_
      refine wE (i := 4) rfl (by decide +kernel) ?_
      refine qJ 2 (v := .int .i64 _) rfl rfl rfl rfl ?_
      refine qG (i := 5) rfl (by decide +kernel) (qS rfl (by omega)) ?_
      refine qG (i := 8) rfl (by decide +kernel) (qF rfl rfl rfl rfl 0 rfl) ?_
      refine wE (i := 9) rfl (by decide +kernel) ?_
      refine qJ 2 (v := .int .i64 _) rfl rfl rfl rfl ?_
      refine dw_eff (i := 6) rfl (by decide +kernel) ?_
      refine op_fnMM [] [_] [_, _, _, _, _, _, _] (vs := [.pointer _, .int .i64 _, .int .i64 _]) rfl rfl rfl ((Within_ok b y4 1 (r - 1) (by omega) (by omega) (by omega) h15)) ?_
      rintro _ h16 _ E16 ⟨y5, d, rfl, rfl, d1, d2⟩
      refine ⟨ext_wlm E16 _, ?_⟩
      refine wJ [_, _, _, _, _, _, _, _] rfl ?_
      refine qG (i := 7) rfl (by decide +kernel) (qS rfl (by omega)) ?_
      refine wV (i := 10) rfl (by decide +kernel) (by decide +kernel) ?_
      refine wI (caps := []) (vs := [.int .i64 _, .int .i64 _]) rfl rfl rfl (Turn_ok (z + d) r (by omega) h16) ?_
      rintro _ h17 E17 rfl
      have tb := turnI_bd (z + d) r
      have tn := turnI_ne (f := z) (d := d) (n := r) (by omega) ⟨z1, by omega⟩ ⟨d1, by omega⟩
      refine qG (i := 11) rfl (by decide +kernel) (qF rfl rfl rfl rfl 1 rfl) ?_
      refine wV (i := 12) rfl (by decide +kernel) (by decide +kernel) ?_
      refine qY 7 (v := .int .i64 _) (vs := [_]) (c' := [_, _, _, _]) rfl rfl rfl rfl rfl rfl rfl rfl rfl ?_
      refine wJ [_, _, _, _, _, _, _, _] rfl ?_
      refine dw_end rfl ?_
      refine qB rfl ?_
      refine qA (qF rfl rfl rfl rfl 7 rfl) ?_
      refine qJ 2 (v := .slice _ _ _) rfl rfl rfl rfl ?_
      refine wH 7 (vs := [.int .i64 _, .int .i64 _, .int .i64 _, .int .i64 _]) rfl rfl rfl rfl rfl ?_
      refine qZ (zc := [_, _, _, _]) (vs := [(0, .agg #[.int .i64 _, .int .i64 _, .int .i64 _, .int .i64 _])]) (cs := [_, _, _, _]) rfl rfl rfl rfl rfl rfl rfl fun b123 hb123 => ?_
      refine qH [_, _, _, _, _, _, _, _, _] rfl ?_
      refine wY 5 KA rfl rfl rfl (fun V => rdP V (i := 8) rfl) rfl rfl rfl rfl rfl rfl rfl rfl rfl (by omega) rfl (by rw [wP (m := 4) (fun _ _ => rfl)]; simp; omega) fun a2 h7a E7a ha2 => ?_
      refine qH [_, _, _, _, _, _, _, _, _] rfl ?_
      refine qA (qF rfl rfl rfl rfl 7 rfl) ?_
      refine qY 2 (v := .slice _ _ _) (vs := [_]) (c' := [_, _, _, _, _, _, _, _, _]) rfl rfl rfl rfl rfl rfl rfl rfl rfl ?_
      refine qH [_, _, _, _, _, _, _, _, _] rfl ?_
      refine qB rfl ?_
      refine qA (qC (v := .int .i64 _) rfl) ?_
      refine qA (qS rfl (by omega)) ?_
      refine qA (qE (v := .int .i64 _) rfl) ?_
      refine ⟨(k - 1, y5, ls ++ [⟨z, turnI (z + d) r, e, w⟩], a2), ⟨rfl, trivial⟩, rfl, rfl, (zA (zA (zA (zA (zA (zA E_k E13) E14) E15) E16) E17) E7a), fun h3 E3 => ⟨⟨by omega, by simp; omega⟩, mem_one N3 ⟨⟨z1, by show z < r; omega⟩, ⟨tb.1, tb.2 (by omega)⟩, fun he => tn he.symm, ⟨e1, by show e < g; omega⟩, ⟨w1, by show w ≤ t; omega⟩⟩, by rw [List.flatMap_append]; exact ha2⟩, by first | omega | (dsimp only; omega), ?_⟩
      repeat (first | exact qW _ _ _ | refine wB (by decide) ?_ | refine qV rfl ?_ | refine wD rfl ?_)
     ·skip
      refine wT ?_
      refine ⟨(y, ls, a), trivial, rfl, rfl, (zA E12 E_k), fun h3 E3 => ⟨by omega, N3, KA⟩, ?_⟩
      repeat (first | exact wS _ _ | exact qW _ _ _ | refine wB (by decide) ?_ | refine qV rfl ?_ | refine wD rfl ?_)
    ·skip
     have hk0 : k = 0 := by have := of_decide_eq_false hk; omega
     refine qK rfl hk ?_
     refine qK rfl hk ?_
     refine qK rfl hk ?_
     refine qA (wZ rfl hk (v := .bool _) rfl) ?_
     refine xp_condF rfl (rfl) ?_
     refine wT ?_
     refine ⟨(y, ls, a), trivial, rfl, rfl, (zA E12 E_k), fun h3 E3 => ⟨by omega, N3, KA⟩, ?_⟩
     repeat (first | exact wS _ _ | exact qW _ _ _ | refine wB (by decide) ?_ | refine qV rfl ?_ | refine wD rfl ?_)
   ·rintro ⟨y, ls, a⟩ T5 h_y E_y J_y
    refine qR [_, _, _, _, _, _, _] rfl ?_
    obtain ⟨N1, N3, KA⟩ := J_y
    obtain ⟨pL, AL, nL, cL⟩ := a
    obtain rfl : nL = ls.length := by have := AccR.len KA; rw [wP (m := 4) (fun _ _ => rfl)] at this; dsimp only at this; omega
    dsimp only at *
    have hcL : ls.length ≤ cL := AccP.cap KA (by omega)
    refine goes_pubO 5 rfl ?_
    intro gL GL PL
    refine qR [_, _, _, _, _, _, _] rfl ?_
    have RL : Row gL 4 linkC AL ls := ⟨fun _ _ => rfl, AccR.rd KA PL⟩
    refine qD ?_
    refine qD ?_
    refine qB rfl ?_
    refine qA (qE (v := .int .i64 _) rfl) ?_
    refine qQ ?_
    refine xp_loopL [14, 126, 127, 128, 129, 130, 131, 132, 133, 134, 135, 136, 137, 138] 7 (α := Nat × Nat × List Int × Acc) (fun ⟨k, y, ws, a⟩ => [(14, .int .i64 k)]) (fun ⟨k, y, ws, a⟩ L => ((L.set 0 (some (b, .cells #[.int .u64 (y : Int)] 97 (0, 0)))).set 2 (some (b9, .cells #[.int .i64 r, .int .i64 v, .int .i64 g, .int .i64 t, .int .i64 o, .slice AB bs.length cB, .slice AQ qs.length cQ, .slice AL ls.length cL, .slice a.A a.n a.c] 28 (0, 0)))).set 6 (a.p)) (fun ⟨k, y, ws, a⟩ h_k => (k ≤ v.toNat ∧ ws.length = k) ∧ (∀ z ∈ ws, 0 ≤ z ∧ z ≤ 50) ∧ AccR 3 1 (ws.flatMap intC) a) (fun ⟨k, y, ws, a⟩ => v.toNat - k) ((0, y, [], acc0)) ⟨rfl, trivial⟩ (rfl) (⟨⟨by omega, rfl⟩, fun _ hz => absurd hz List.not_mem_nil, accR0⟩) ?_
    rintro ⟨k, y, ws, a⟩ T8 h_k E_k J_k
    refine qR [_, _, _, _, _, _, _] rfl ?_
    obtain ⟨⟨M1, M2⟩, M3, KA⟩ := J_k
    refine qD ?_
    refine qD ?_
    refine qB rfl ?_
    refine qA (qC (v := .int .i64 _) rfl) ?_
    refine qA (qF rfl rfl rfl rfl 1 rfl) ?_
    refine qJ 2 (v := .int .i64 _) rfl rfl rfl rfl ?_
    refine qA (qN (v := .bool _) rfl) ?_
    refine qT rfl (fun hw => ?_) (fun hw => ?_)
    ·skip
     have hkv : (k : Int) < v := of_decide_eq_true hw
     refine qU ?_
     refine qD ?_
     refine qQ ?_
     refine xp_dw [true, false, false, false, false, false, false] rfl rfl rfl ?_
     refine qG (i := 0) rfl (by decide +kernel) (qF rfl rfl rfl rfl 8 rfl) ?_
     refine wE (i := 1) rfl (by decide +kernel) ?_
     refine qJ 2 (v := .slice _ _ _) rfl rfl rfl rfl ?_
     refine qG (i := 2) rfl (by decide +kernel) (qC (v := .pointer (some ⟨b, 0, none⟩)) rfl) ?_
     refine dw_eff (i := 3) rfl (by decide +kernel) ?_
     refine op_fnMM [] [_] [_, _, _, _, _, _] (vs := [.pointer _, .int .i64 _]) rfl rfl rfl ((Upto_ok b y 9 (by omega) h_k)) ?_
     rintro _ h18 _ E18 ⟨y2, z, rfl, rfl, z1, z2⟩
     refine ⟨ext_wlm E18 _, ?_⟩
     refine wJ [_, _, _, _, _, _, _] rfl ?_
     refine dw_eff (i := 4) rfl (by decide +kernel) ?_
     refine qZ (zc := [_]) (vs := [(0, .int .i64 _)]) (cs := [_]) rfl rfl rfl rfl rfl rfl rfl fun b136 hb136 => ?_
     refine ⟨ext_newM hb136 _, ?_⟩
     refine wJ [_, _, _, _, _, _, _, _] rfl ?_
     refine wV (i := 5) rfl (by decide +kernel) (by decide +kernel) ?_
     refine wY 6 KA rfl rfl rfl (fun V => rdP V (i := 7) rfl) rfl rfl rfl rfl rfl rfl rfl rfl rfl (by omega) rfl (by rw [wP (m := 1) (fun _ _ => rfl)]; simp; omega) fun a2 h9a E9a ha2 => ?_
     refine wJ [_, _, _, _, _, _, _, _] rfl ?_
     refine qG (i := 6) rfl (by decide +kernel) (qF rfl rfl rfl rfl 8 rfl) ?_
     refine wV (i := 7) rfl (by decide +kernel) (by decide +kernel) ?_
     refine qY 2 (v := .slice _ _ _) (vs := [_]) (c' := [_, _, _, _, _, _, _, _, _]) rfl rfl rfl rfl rfl rfl rfl rfl rfl ?_
     refine wJ [_, _, _, _, _, _, _, _] rfl ?_
     refine dw_end rfl ?_
     refine qB rfl ?_
     refine qA (qC (v := .int .i64 _) rfl) ?_
     refine qA (qS rfl (by omega)) ?_
     refine qA (qE (v := .int .i64 _) rfl) ?_
     refine ⟨(k + 1, y2, ws ++ [z], a2), ⟨rfl, trivial⟩, rfl, rfl, (zA (zA E_k E18) E9a), fun h3 E3 => ⟨⟨by omega, by simp; omega⟩, mem_one M3 ⟨z1, by omega⟩, by rw [List.flatMap_append]; exact ha2⟩, by first | omega | (dsimp only; omega), ?_⟩
     repeat (first | exact qW _ _ _ | refine wB (by decide) ?_ | refine qV rfl ?_ | refine wD rfl ?_)
    ·skip
     have hkv : (k : Int) = v := by have := of_decide_eq_false hw; omega
     obtain ⟨pW, AW, nW, cW⟩ := a
     obtain rfl : nW = ws.length := by have := AccR.len KA; rw [wP (m := 1) (fun _ _ => rfl)] at this; dsimp only at this; omega
     dsimp only at *
     refine goes_pubO 6 rfl ?_
     intro gW GW PW
     refine qR [_, _, _, _, _, _, _] rfl ?_
     have RW : Row gW 1 intC AW ws := ⟨fun _ _ => rfl, AccR.rd KA PW⟩
     refine wT ?_
     refine qD ?_
     refine qB rfl ?_
     refine wH 2 (vs := [.int .i64 _, .int .i64 _, .int .i64 _, .int .i64 _, .int .i64 _, .slice _ _ _, .slice _ _ _, .slice _ _ _, .slice _ _ _]) rfl rfl rfl rfl rfl ?_
     refine qY 1 (v := .agg #[.int .i64 _, .int .i64 _, .int .i64 _, .int .i64 _, .int .i64 _, .slice _ _ _, .slice _ _ _, .slice _ _ _, .slice _ _ _]) (vs := [_, _, _, _, _, _, _, _, _]) (c' := [_, _, _, _, _, _, _, _, _]) rfl rfl rfl rfl rfl rfl rfl rfl rfl ?_
     refine qH [_, _, _, _, _, _, _] rfl ?_
     refine qX ?_
     refine qO (vs := [_]) Try.results18 ⟨resV_agg 1 rfl rfl rfl rfl rfl (vs := [.int .i64 _, .int .i64 _, .int .i64 _, .int .i64 _, .int .i64 _, .slice _ _ _, .slice _ _ _, .slice _ _ _, .slice _ _ _]) rfl, trivial⟩ fun V => ?_
     obtain ⟨h9, E9, e9, V9⟩ := wl_drop [_, _, _, _, _, _] [_] V
     have RB9 := (RB.ext (zA (zA (zA (zA (zA (zA E8 E_j) GP) E_y) GL) E_k) GW)).ext E9
     refine ⟨h9, _, e9, V9, zA (zA (zA (zA (zA (zA (zA (zA (zA (zA (zA (zA (zA (zA (zA E1 E2) E3) E4) E5) E6) E_i) GB) E8) E_j) GP) E_y) GL) E_k) GW) E9, y, ⟨r, v, g, t, o, bs, qs, ls, ws⟩, rfl, ⟨.slice AB bs.length cB, .slice AQ qs.length cQ, .slice AL ls.length cL, .slice AW ws.length cW, rfl, ⟨AB, cB, rfl, RB9⟩, ⟨AQ, cQ, rfl, (RP.ext (zA (zA (zA E_y GL) E_k) GW)).ext E9⟩, ⟨AL, cL, rfl, (RL.ext (zA E_k GW)).ext E9⟩, ⟨AW, cW, rfl, RW.ext E9⟩⟩, ?_⟩
     exact ⟨⟨⟨⟨r1, by show r ≤ 6; omega⟩, ⟨v1, by show v ≤ 6; omega⟩, ⟨g1, by show g ≤ 2; omega⟩, ⟨by show 1 ≤ t; omega, t2⟩, ⟨o1, by show o ≤ t; omega⟩, by show bs.length ≤ 4; omega, K3, by show qs.length ≤ 8; omega, L3, by show ls.length ≤ 4; omega, N3, by show (ws.length : Int) = v; omega, M3⟩, by show r ≤ size; omega, by show v ≤ size; omega, by show bs.length ≤ 3; omega, by show (qs.length : Int) ≤ pins; omega, N1⟩, capM_of hcQ hcL⟩
end
end Go.Proofs.Ythphpbdmbmiaiaa
namespace Go.Proofs.Ythphpbdmbmiaiaa
open Go Go.HL Go.Proofs Go.Wx Go.Rd
section
variable [Lvl]
set_option maxRecDepth 100000
theorem set_of {l : List Int} {n : Nat} {k : Int} (e : k = n) (h : ∀ z ∈ l, 0 ≤ z ∧ z < n) (p : l.Pairwise (· < ·)) : SetOK l k := by
 subst e
 exact ⟨h, p⟩
theorem HandOf_ok (b x : Nat) (m : MachP) (hb : m.buttons.length ≤ 100) (hr : 0 ≤ m.regs ∧ m.regs ≤ 100) (AB AQ AL AW : Option Addr) (cB cQ cL cW : Nat) (h : AH) :
  FnM Try.prog (.func (.func 19) #[] ([] : List Value).toArray) [.pointer (some ⟨b, 0, none⟩), machV AB AQ AL AW cB cQ cL cW m] h [some (b, .cells #[.int .u64 (x : Int)] 97 (0, 0))]
  (fun v h' M' => ∃ (x' : Nat) (a : HandP), M' = [some (b, .cells #[.int .u64 (x' : Int)] 97 (0, 0))] ∧ HandV h' a v ∧ HOK m a) := by
 refine fnM_body rfl rfl Try.func19 rfl Try.ntmps19 rfl ?_
 refine qD ?_
 refine qB rfl ?_
 refine op_box (v := .agg #[.int .i64 _, .int .i64 _, .int .i64 _, .int .i64 _, .int .i64 _, .slice _ _ _, .slice _ _ _, .slice _ _ _, .slice _ _ _]) (cs := [_, _, _, _, _, _, _, _, _]) rfl rfl fun b3 hb3 => ?_
 refine qH [_, _] rfl ?_
 refine wW (cs := [_, _]) rfl rfl fun b4 hb4 => ?_
 refine qH [_, _, _] rfl ?_
 refine qD ?_
 refine xp_dw [true, false, false] rfl rfl rfl ?_
 refine qG (i := 0) rfl (by decide +kernel) (qC (v := .pointer (some ⟨b, 0, none⟩)) rfl) ?_
 refine qG (i := 1) rfl (by decide +kernel) (qF rfl rfl rfl rfl 5 rfl) ?_
 refine wE (i := 2) rfl (by decide +kernel) ?_
 refine qJ 1 (v := .slice _ _ _) rfl rfl rfl rfl ?_
 refine qG (i := 3) rfl (by decide +kernel) (wQ rfl rfl) ?_
 refine qG (i := 5) rfl (by decide +kernel) (qC (v := .pointer (some ⟨b, 0, none⟩)) rfl) ?_
 refine qG (i := 6) rfl (by decide +kernel) (qF rfl rfl rfl rfl 2 rfl) ?_
 refine wE (i := 7) rfl (by decide +kernel) ?_
 refine qJ 1 (v := .int .i64 _) rfl rfl rfl rfl ?_
 refine dw_eff (i := 4) rfl (by decide +kernel) ?_
 refine op_fnMM [] [_] [_, _] (vs := [.pointer _, .int .i64 _]) rfl rfl rfl ((Pick_ok b x m.buttons.length (by omega) h)) ?_
 rintro _ h1 _ E1 ⟨x1, l, rfl, ⟨A1, c1, rfl, R1⟩, k1, k2, k3⟩
 refine ⟨ext_wlm E1 _, ?_⟩
 refine wJ [_, _, _] rfl ?_
 refine wV (i := 8) rfl (by decide +kernel) (by decide +kernel) ?_
 refine op_fnMM [] [_] [_, _] (vs := [.pointer _, .int .i64 _]) rfl rfl rfl (fnM_args (by simp only [List.cons.injEq, Value.int.injEq, true_and, and_true]; omega) (Pick_ok b x1 m.regs.toNat (by omega) h1)) ?_
 rintro _ h2 _ E2 ⟨x2, l2, rfl, ⟨A2, c2, rfl, R2⟩, j1, j2, j3⟩
 refine wJ [_, _, _] rfl ?_
 refine qG (i := 9) rfl (by decide +kernel) (pv_build (zc := [_, _]) (vs := [(0, .slice _ _ _), (1, .slice _ _ _)]) (cs := [_, _]) rfl rfl rfl rfl rfl rfl) ?_
 refine wV (i := 10) rfl (by decide +kernel) (by decide +kernel) ?_
 refine qY 2 (v := .agg #[.slice _ _ _, .slice _ _ _]) (vs := [_, _]) (c' := [_, _]) rfl rfl rfl rfl rfl rfl rfl rfl rfl ?_
 refine wJ [_, _, _] rfl ?_
 refine dw_end rfl ?_
 refine qX ?_
 refine qO (vs := [_]) Try.results19 ⟨resV_agg 2 rfl rfl rfl rfl rfl (vs := [.slice _ _ _, .slice _ _ _]) rfl, trivial⟩ fun V => ?_
 obtain ⟨h9, E9, e9, V9⟩ := wl_drop [_, _] [_] V
 exact ⟨h9, _, e9, V9, zA (zA E1 E2) E9, x2, ⟨l, l2⟩, rfl, ⟨_, _, rfl, ⟨A1, c1, rfl, (R1.ext E2).ext E9⟩, ⟨A2, c2, rfl, R2.ext E9⟩⟩, ⟨k1, k2⟩, set_of (by omega) j1 j2⟩
end
end Go.Proofs.Ythphpbdmbmiaiaa
namespace Go.HL
open Go Go.Wx Go.RowKit
def lawK (t : Nat) (h0 : AH) : Post
 | .normal, S, D, L, h => D = [] ∧ (Valid h L → Ext h0 (wl h L)) ∧ S t = .bool true
 | .ret, S, D, L, h => D = [] ∧ (Valid h L → Ext h0 (wl h L)) ∧ S t = .bool true
 | _, _, _, _, _ => False
theorem below_of {w w' : World} (se : SameEnv w w') (e : Ext (absH w.heap) (absH w'.heap)) : Below w.heap.size w w' := by
 have hb : ∀ k, k < w.heap.size → w'.heap[k]? = w.heap[k]? := by
  intro k hk
  have h1 : absH w.heap k = some w.heap[k] := Array.getElem?_eq_getElem hk
  have h2 : w'.heap[k]? = some w.heap[k] := e k _ h1
  rw [h2]
  exact (Array.getElem?_eq_getElem hk).symm
 refine ⟨se.os, se.tape, se.output, ?_, hb⟩
 rcases Nat.lt_or_ge w'.heap.size w.heap.size with h1 | h1
 ·have h2 := hb w'.heap.size h1
  rw [Array.getElem?_eq_getElem h1] at h2
  simp at h2
 ·exact h1
variable [Lvl]
theorem row_of {w : World} {a : Option Addr} {len cap : Nat} {zs : List Int} (h : (a = none ∧ len = 0 ∧ cap = 0 ∧ zs = []) ∨
  ∃ x, a = some x ∧ len ≤ cap ∧ cap ≤ maxLen ∧ zs.length = cap ∧ (∀ i, i < zs.length → w.cell? (x.add i) = some (.int .i64 (zs.getD i 0))) ∧ ∀ n ∈ zs, (Lit.int .i64 n).wf = true) :
  ∃ l : List Int, l.length = len ∧ Row (absH w.heap) 1 intC a l ∧ len ≤ maxLen ∧ ∀ n ∈ l, (Lit.int .i64 n).wf = true := by
 rcases h with ⟨rfl, rfl, rfl, rfl⟩ | ⟨x, rfl, hl, hm, hz, hc, hw⟩
 ·exact ⟨[], rfl, ⟨fun _ h => (by cases h), Rd.nil _ _⟩, Nat.zero_le _, fun _ h => (by cases h)⟩
 ·refine ⟨zs.take len, by rw [List.length_take]; omega, ⟨fun _ _ => rfl, ?_⟩, by omega, fun n hn => hw n (List.mem_of_mem_take hn)⟩
  have hflat : ∀ l : List Int, l.flatMap intC = l.map (Value.int .i64) := by
   intro l
   induction l with
   | nil => rfl
   | cons a l ih => simp [List.flatMap_cons, ih, intC]
  rw [hflat]
  intro hne
  have hpos : 0 < zs.length := by
   rcases Nat.eq_zero_or_pos zs.length with h0 | h0
   ·rw [List.eq_nil_of_length_eq_zero h0] at hne; simp at hne
   ·exact h0
  obtain ⟨g, off, sp⟩ := x
  have h0 := hc 0 hpos
  have hsp : sp = none := by
   cases sp with
   | none => rfl
   | some s =>
    exfalso
    have : w.cell? ((⟨g, off, some s⟩ : Addr).add 0) = none := by
     simp only [Addr.add]
     rw [cell_abs]
     unfold cellA
     split <;> simp
    rw [this] at h0
    cases h0
  subst hsp
  refine ⟨g, off, rfl, fun j u hu => ?_⟩
  have hj : j < zs.length := by
   have := (List.getElem?_eq_some_iff.1 hu).1
   rw [List.length_map, List.length_take] at this
   omega
  have h1 := hc j hj
  rw [cell_abs, add_none] at h1
  rw [h1]
  rw [List.getElem?_map, List.getElem?_take] at hu
  split at hu
  ·rw [List.getElem?_eq_getElem hj] at hu
   simp only [Option.map_some, Option.some.injEq] at hu
   rw [← hu]
   simp [List.getD_eq_getElem?_getD, hj]
  ·cases hu
end Go.HL
namespace Go.HL
open Go Go.Wx Go.RowKit Go.Conc Go.ConcN
def RunsTrue (P : Program) (f : FuncId) (args : Array Value) (w : World) : Prop :=
 ∃ M last o w' t', runNT P (M + 1) (solo (G (Frame.enter P f args .normal) []) w) #[] = (.ended o w', t') ∧ runN P M (solo (G (Frame.enter P f args .normal) []) w) = .next last ∧ step P last = .ended o w' ∧
  Go.Conc.Good P (fun v W' => v = .bool true ∧ Below w.heap.size w W') last o w' t'
theorem runs_body {P : Program} {f : FuncId} {fn : Func} {c : Code} {args : Array Value} {n t : Nat} {w : World} (hf : P.funcs[f]? = some fn) (hb : fn.body = some c) (hn : fn.ntmps = n) (ha : Nat.ble args.size n = true) (hr : fn.results = #[.tmp t]) (ht : Nat.blt t n = true) (hi : P.inits.idxOf? f = none)
  (x : ∀ h, h = absH w.heap → @xp ⟨true, none, none⟩ P n none c (lawK t h) (argS args) [] [] h) :
  RunsTrue P f args w := by
 letI : Lvl := ⟨true, none, none⟩
 have he : Frame.enter P f args .normal = mk { (default : Frame) with fn := f, kind := .normal, roundOf := none } n (argS args) [] [.code c] := by
  simp [Frame.enter, mk, hf, hb, hn, enter_tmps n args (Nat.le_of_ble_eq_true ha)]
 have hres : ∀ (S : Sl) (w' : World), S t = .bool true → results fn (arr n S) = .pure (.bool true) := by
  intro S w' hs
  unfold results
  rw [hr, List.mapM_toArray]
  have e1 : (arr n S).getD t undef = .bool true := by rw [arr_getD, if_pos (Nat.lt_of_lt_of_le (Nat.lt_succ_self t) (Nat.le_of_ble_eq_true ht)), hs]
  show Sem.pure ((arr n S).getD t undef) = _
  rw [e1]
 have x1 := x _ rfl (absH w.heap) (by have := Fits.nil (valid_nil (Fin.abs w.heap)); rw [wl_nil] at this; exact this) { (default : Frame) with fn := f, kind := .normal, roundOf := none } rfl [] []
 have x2 : Rch P (fun fr cs' H => cs' = [] ∧ fr.mode = .returning ∧ fr.defers = [] ∧ fr.kind = .normal ∧ fr.fn = f ∧ (∃ S, fr.tmps = arr n S ∧ S t = .bool true) ∧ Ext (absH w.heap) H) (mk { (default : Frame) with fn := f, kind := .normal, roundOf := none } n (argS args) [] [.code c]) [] (absH w.heap) := by
  refine x1.bind ?_
  rintro fr cs' H ⟨rfl, e, S', D', L', h', V', kk, a⟩
  cases e with
  | normal =>
   obtain ⟨rfl, ex, hs⟩ := kk
   have a' : fr = mk { (default : Frame) with fn := f, kind := .normal, roundOf := none } n S' [] [] := a
   subst a'
   have hH : H = wl h' L' := by rw [V'.eq]; exact hun_nil _
   subst hH
   refine .ctl (fr' := { mk { (default : Frame) with fn := f, kind := .normal, roundOf := none } n S' [] [] with mode := .returning }) (cs' := []) (fun w => by simp [stepG, stepG.exec, mk]) (.done ⟨rfl, rfl, rfl, rfl, rfl, ⟨S', rfl, hs⟩, ex V'.valid⟩)
  | ret =>
   obtain ⟨rfl, ex, hs⟩ := kk
   obtain ⟨todo, rfl⟩ := a.1 rfl
   have hH : H = wl h' L' := by rw [V'.eq]; exact hun_nil _
   subst hH
   exact .done ⟨rfl, rfl, rfl, rfl, rfl, ⟨S', rfl, hs⟩, ex V'.valid⟩
  | _ => exact kk.elim
 unfold RunsTrue
 rw [he]
 refine x2.ends rfl rfl ?_
 rintro fr cs h w' ⟨rfl, hm, hd, hk, hfn, ⟨S, htm, hs⟩, ex⟩ se rfl
 have hr1 := hres S w' hs
 have hru : (results fn fr.tmps).runT P w' #[] = (.ok (.bool true) w', #[]) := by rw [htm, hr1]; rfl
 have hf' : P.funcs[fr.fn]? = some fn := by rw [hfn]; exact hf
 have hi' : P.inits.idxOf? fr.fn = none := by rw [hfn]; exact hi
 have h1 : stepG P true (G fr []) w' = unwind P true fr [] none w' := by
  simp [stepG, stepG.exec, hm]
 have h2 : unwind P true fr [] none w' = GStep.after (seen P fr.fn #[]) (.ended (.done (.bool true)) w') := by
  unfold unwind
  rw [hd]
  simp only [hm, hf', hru]
  unfold doReturn
  simp only [hk, hi']
  rfl
 refine ⟨rfl, .bool true, seen P fr.fn #[], ?_, fun e he => ?_, rfl, below_of se ex⟩
 ·rw [h1, h2]
  simp [GStep.after]
 ·simp [seen] at he
end Go.HL
namespace Go.Rd
open Go Go.HL Go.Wx
variable [Lvl]
theorem chk_of {m : MachP} (M : MOK m) : chkM m = 0 := by
 unfold chkM
 have h := M.rods; have h2 := M.levers; have h3 := M.regs; have h4 := M.travel; have h5 := M.opn
 rw [if_neg (by simp [inM]; omega), if_neg (by simp [inM]; omega), if_neg (by simp [inM]; omega), if_neg (by simp [inM]; omega), if_neg (by simp [inM]; omega)]
 have b1 : firstErr (checkButtonM m) m.buttons = 0 := firstErr_iff.2 fun b hb => by
  have := M.btn b hb
  unfold checkButtonM
  rw [if_neg (by simp [inM]; omega)]
 have b2 : firstErr (checkPinM m) m.pins = 0 := firstErr_iff.2 fun p hp => by
  obtain ⟨a, b, c⟩ := M.pin p hp
  unfold checkPinM
  rw [if_neg (by simp [inM]; omega), if_neg (by simp [inM]; omega), if_neg (by simp [inM]; omega)]
 have b3 : firstErr (checkLinkM m) m.links = 0 := firstErr_iff.2 fun l hl => by
  obtain ⟨a, b, c, d, e⟩ := M.link l hl
  unfold checkLinkM
  rw [if_neg (by simp [inM]; omega), if_neg (by simp [inM]; omega), if_neg c, if_neg (by simp [inM]; omega), if_neg (by simp [inM]; omega)]
 have b4 : firstErr checkWeightM m.weights = 0 := firstErr_iff.2 fun w hw => by
  have := M.wt w hw
  unfold checkWeightM
  rw [if_neg (by simp [inM]; omega)]
 rw [if_neg (by have := M.bl; omega), b1, if_neg (by decide), if_neg (by have := M.pl; omega), b2, if_neg (by decide), if_neg (by have := M.ll; omega), b3, if_neg (by decide), if_neg (by have := M.wl; omega), b4]
theorem hand_of {m : MachP} {a : HandP} (M : MOK m) (H : HOK m a) : checkHandM m a = 0 := by
 unfold checkHandM
 rw [chk_of M, if_neg (by decide), checkSet_iff.2 H.b, if_neg (by decide), checkSet_iff.2 H.o]
theorem MOK.pins {m : MachP} (M : MOK m) : ∀ p ∈ m.pins, 0 ≤ p.lever ∧ 0 ≤ p.rod := fun p hp => ⟨(M.pin p hp).2.1.1, (M.pin p hp).1.1⟩
theorem MOK.cap {m : MachP} (M : MOK m) {ps : List PinP} {ls : List LinkP} (hp : ps.length ≤ 8) (hl : ls.length ≤ 4)
  (h1 : ∀ p ∈ ps, (0 ≤ p.rod ∧ p.rod < m.rods) ∧ (0 ≤ p.lever ∧ p.lever < m.levers) ∧ (0 ≤ p.lag ∧ p.lag ≤ m.travel))
  (h2 : ∀ l ∈ ls, (0 ≤ l.frm ∧ l.frm < m.rods) ∧ (0 ≤ l.to ∧ l.to < m.rods) ∧ l.frm ≠ l.to ∧ (-1 ≤ l.reg ∧ l.reg < m.regs) ∧ (1 ≤ l.lag ∧ l.lag ≤ m.travel)) : MOK { m with pins := ps, links := ls } :=
 ⟨M.rods, M.levers, M.regs, M.travel, M.opn, M.bl, M.btn, hp, h1, hl, h2, M.wl, M.wt⟩
end Go.Rd
namespace Go.HL
open Go
variable [Lvl]
section
variable {P : Program} {n : Nat} {d : Option Tmp} {ty : TypeId} {ps : String} {af : Array Edge} {S : Sl}
end
end Go.HL
namespace Go.Proofs.Ythphpbdmbmiaiaa
open Go Go.HL Go.Proofs Go.Wx Go.Rd
section
variable [Lvl]
set_option maxRecDepth 100000
end
end Go.Proofs.Ythphpbdmbmiaiaa
namespace Go.Proofs.Ythphpbdmbmiaiaa
open Go Go.HL Go.Proofs Go.Wx Go.Rd
section
variable [Lvl]
set_option maxRecDepth 100000
end
end Go.Proofs.Ythphpbdmbmiaiaa
namespace Go.Proofs.Ythphpbdmbmiaiaa
open Go Go.HL Go.Proofs Go.Wx Go.Rd
section
variable [Lvl]
set_option maxRecDepth 100000
end
end Go.Proofs.Ythphpbdmbmiaiaa
namespace Go.Proofs.Ythphpbdmbmiaiaa
open Go Go.HL Go.Proofs Go.Wx Go.Rd
section
variable [Lvl]
set_option maxRecDepth 100000
end
end Go.Proofs.Ythphpbdmbmiaiaa
namespace Go.Rd
open Go Go.HL Go.Wx
variable [Lvl]
end Go.Rd
namespace Go.Proofs.Ythphpbdmbmiaiaa
open Go Go.HL Go.Proofs Go.Wx Go.Rd
section
variable [Lvl]
set_option maxRecDepth 100000
end
end Go.Proofs.Ythphpbdmbmiaiaa
namespace Go.Proofs.Ythphpbdmbmiaiaa
open Go Go.HL Go.Proofs Go.Wx Go.Rd
section
variable [Lvl]
set_option maxRecDepth 100000
end
end Go.Proofs.Ythphpbdmbmiaiaa
namespace Go.Proofs.Ythphpbdmbmiaiaa
open Go Go.HL Go.Proofs Go.Wx Go.Rd
section
variable [Lvl]
set_option maxRecDepth 100000
end
end Go.Proofs.Ythphpbdmbmiaiaa
namespace Go.Proofs.Ythphpbdmbmiaiaa
open Go Go.HL Go.Proofs Go.Wx Go.Rd
section
variable [Lvl]
set_option maxRecDepth 100000
end
end Go.Proofs.Ythphpbdmbmiaiaa
namespace Go.Proofs.Ythphpbdmbmiaiaa
open Go Go.HL Go.Proofs Go.Wx Go.Rd
section
variable [Lvl]
set_option maxRecDepth 100000
def ChoI (P : List Int → Bool) (n : Nat) (p3 p4 p10 p11 : Nat × Obj) (b6 b7 l : Nat) (t6 t7 : TypeId) (r : Loop) (h0 : AH) (k : Nat) (h : AH) (M : Pv) : Prop :=
 Ext h0 h ∧ (∀ i s, i < k → (setsM n)[i]? = some s → P s = false) ∧
  M = [some p3, some p4, some (b6, .cells #[.slice none 0 0] t6 (0, 0)), some (b7, .cells #[.int .i64 0] t7 (0, 0)), some p10, some p11, some (l, obL r .ready none)]
def ChoF (P : List Int → Bool) (n : Nat) (p3 p4 p10 p11 : Nat × Obj) (b6 b7 l : Nat) (t6 t7 : TypeId) (r : Loop) (h0 : AH) (h : AH) (M : Pv) : Prop :=
 Ext h0 h ∧ ∃ (x : List Int) (BA : Option Addr) (cB : Nat), (setsM n).find? P = some x ∧ Row h 1 intC BA x ∧
  M = [some p3, some p4, some (b6, .cells #[.slice BA x.length cB] t6 (0, 0)), some (b7, .cells #[.int .i64 0] t7 (0, 0)), some p10, some p11, some (l, obL r .done (some .ret))]
theorem ChoI.ext {P : List Int → Bool} {n : Nat} {p3 p4 p10 p11 : Nat × Obj} {b6 b7 l : Nat} {t6 t7 : TypeId} {r : Loop} {h0 h h' : AH} {k : Nat} {M : Pv} (I : ChoI P n p3 p4 p10 p11 b6 b7 l t6 t7 r h0 k h M) (E : Ext h h') : ChoI P n p3 p4 p10 p11 b6 b7 l t6 t7 r h0 k h' M := ⟨I.1.trans E, I.2⟩
theorem ChoF.ext {P : List Int → Bool} {n : Nat} {p3 p4 p10 p11 : Nat × Obj} {b6 b7 l : Nat} {t6 t7 : TypeId} {r : Loop} {h0 h h' : AH} {M : Pv} (I : ChoF P n p3 p4 p10 p11 b6 b7 l t6 t7 r h0 h M) (E : Ext h h') : ChoF P n p3 p4 p10 p11 b6 b7 l t6 t7 r h0 h' M := by
 obtain ⟨E0, x, BA, cB, e1, R1, e2⟩ := I
 exact ⟨E0.trans E, x, BA, cB, e1, R1.ext E, e2⟩
end
end Go.Proofs.Ythphpbdmbmiaiaa
namespace Go.Rd
open Go Go.HL Go.Wx
end Go.Rd
namespace Go.Proofs.Ythphpbdmbmiaiaa
open Go Go.HL Go.Proofs Go.Wx Go.Rd
section
variable [Lvl]
set_option maxRecDepth 100000
end
end Go.Proofs.Ythphpbdmbmiaiaa
namespace Go.Proofs.Ythphpbdmbmiaiaa
open Go Go.HL Go.Proofs Go.Wx Go.Rd
section
variable [Lvl]
set_option maxRecDepth 100000
end
end Go.Proofs.Ythphpbdmbmiaiaa
namespace Go.Proofs.Ythphpbdmbmiaiaa
open Go Go.HL Go.Proofs Go.Wx Go.Rd
section
variable [Lvl]
set_option maxRecDepth 100000
end
end Go.Proofs.Ythphpbdmbmiaiaa
namespace Go.Proofs.Ythphpbdmbmiaiaa
open Go Go.HL Go.Proofs Go.Wx Go.Rd
section
variable [Lvl]
set_option maxRecDepth 100000
end
end Go.Proofs.Ythphpbdmbmiaiaa
namespace Go.HL
open Go Go.Conc
variable [Lvl]
section
variable {P : Program} {n : Nat} {ops : Array Oper} {os : List Oper} {K : Sl → Pv → AH → Prop} {E : Value → Sl → Pv → AH → Prop} {S : Sl} {L : Pv} {h : AH} {d : Option Tmp} {ty : TypeId} {ps : String} {af : Array Edge}
theorem op_panic {x : Operand} {t : TypeId} {v : Value} (hx : ev n S x = .iface t v) (e : E (.iface t v) S L h) : wpL P n ops (⟨d, .panic x, ty, ps, af, none⟩ :: os) K E S L h := by
 refine op_of fun V => ?_
 unfold opW
 simp only [execOp, hx]
 exact ⟨L, h, rfl, V, e⟩
def FnE (P : Program) (f : FuncId) (args : Array Value) (h : AH) (R Q : Value → AH → Prop) : Prop := CallT P f args h (fun v h' => Ext h h' ∧ R v h') (fun v h' => Ext h h' ∧ Q v h')
theorem FnE.of {f : FuncId} {args : Array Value} {R Q : Value → AH → Prop} (c : FnT P f args h R) : FnE P f args h R Q := CallT.mono c (fun _ _ r => r) (fun _ _ y => y.elim)
end
section
variable {P : Program} {n : Nat} {S : Sl} {D : Df} {L : Pv} {h : AH} {ops : Array Oper} {i : Nat} {rest : List Nat} {o : Oper} {b : Frame} {k : List Item} {cs : List Frame} {w : World} {main : Bool}
def laterF (g : FuncId) (caps : Array Value) : Deferred := { target := .fn (.func g) caps, args := #[] }
theorem step_deferF {x : Operand} {g : FuncId} {caps : Array Value} {ats : Array TypeId} (ho : ops[i]? = some o) (hw : Region.wanted o (yielded ops (arr n S)) = true) (hop : o.op = .defer { callee := .value x, args := #[], argTypes := ats }) (hx : ev n S x = .func (.func g) #[] caps) (hro : b.roundOf = none) :
  stepG P main (G (mk b n S D (.inRegion ops (i :: rest) :: k)) cs) w = .go (G (mk b n (put S o.dst undef) (laterF g caps :: D) (.inRegion ops rest :: k)) cs) w := by
 have he := mk_eval b n S D (.inRegion ops (i :: rest) :: k)
 simp only [mk, hro] at he
 have hr : (execOp (ev n S) o).runT P w #[] = (.ok (.defer (laterF g caps)) w, #[]) := by
  unfold execOp
  simp only [hop, resolve, Deferred.ofValue, hx]
  simp [bind, pure, Sem.bind, Sem.runT, -Sem.runT_eq, laterF]
 have hf := mk_finish (n := n) b S (laterF g caps :: D) ops i rest k o ho undef
 have e1 : stepG P main (G (mk b n S D (.inRegion ops (i :: rest) :: k)) cs) w = stepG.apply P true (mk b n S D (.inRegion ops (i :: rest) :: k)) cs none (execOp (ev n S) o) w := by
  simp only [stepG, stepG.exec, stepG.oper, Frame.oper?, mk, ho, he, Option.map_some, Option.getD_some, hw, if_true, hro]
 rw [e1]
 unfold stepG.apply
 simp only [hr, if_true]
 have hf2 : Frame.finish { mk b n S D (.inRegion ops (i :: rest) :: k) with defers := laterF g caps :: (mk b n S D (.inRegion ops (i :: rest) :: k)).defers } undef = mk b n (put S o.dst undef) (laterF g caps :: D) (.inRegion ops rest :: k) := hf
 rw [hf2]
 split <;> simp_all [seen_nil, after_nil]
theorem goes_deferF {K : Post} {x : Operand} {g : FuncId} {caps : Array Value} {ats : Array TypeId} (ho : ops[i]? = some o) (hw : Region.wanted o (yielded ops (arr n S)) = true) (hop : o.op = .defer { callee := .value x, args := #[], argTypes := ats }) (hx : ev n S x = .func (.func g) #[] caps)
  (g2 : Goes P n none [.inRegion ops rest] K (put S o.dst undef) (laterF g caps :: D) L h) : Goes P n none [.inRegion ops (i :: rest)] K S D L h := by
 intro H V b hb k cs
 refine .ctl (fr' := mk b n (put S o.dst undef) (laterF g caps :: D) ([.inRegion ops rest] ++ k)) (cs' := cs) (fun main w => step_deferF ho hw hop hx hb) ?_
 have V' : Fits h L (laterF g caps :: D) H := ⟨V.valid, V.disj, V.nd, V.eq⟩
 exact g2 H V' b hb k cs
theorem step_later {g : FuncId} {gn : Func} {c : Code} {caps : Array Value} {md : FrameMode} {todo : List Item} (hg : P.funcs[g]? = some gn) (hname : (gn.name == "runtime.NumGoroutine") = false) (hb : gn.body = some c) (hmd : md = .returning ∨ ∃ ch, md = .panicking ch) :
  stepG P main (G { mk b n S (laterF g caps :: D) todo with mode := md } cs) w = .go (G (Frame.enter P g caps .deferred) ({ mk b n S D todo with mode := md } :: cs)) w := by
 have h1 : ¬ gn.name = "runtime.NumGoroutine" := by simpa using hname
 rcases hmd with rfl | ⟨ch, rfl⟩
 ·simp [stepG, unwind, callDeferred, laterF, mk, invoke, callFunc, hg, h1, hb, GStep.after, seen_none]
 ·simp [stepG, unwind, callDeferred, laterF, mk, invoke, callFunc, hg, h1, hb, GStep.after, seen_none]
theorem exec_recover {ats : Array TypeId} (hop : o.op = .call { callee := .builtin .recover, args := #[], argTypes := ats }) : (execOp (ev n S) o).runT P w #[] = (.ok .recover w, #[]) := by
 unfold execOp
 simp only [hop, resolve, invoke, builtin]
 simp [bind, pure, Sem.bind, Sem.runT, -Sem.runT_eq]
theorem step_recover {ats : Array TypeId} {v : Value} {older : List PanicEntry} {c0 : Frame} (ho : ops[i]? = some o) (hw : Region.wanted o (yielded ops (arr n S)) = true) (hop : o.op = .call { callee := .builtin .recover, args := #[], argTypes := ats }) (hbk : b.kind = .deferred) (hro : b.roundOf = none)
  (hm : c0.mode = .panicking ({ v := v, recovered := false } :: older)) :
  stepG P main (G (mk b n S D (.inRegion ops (i :: rest) :: k)) (c0 :: cs)) w = .go (G (mk b n (put S o.dst v) D (.inRegion ops rest :: k)) ({ c0 with mode := .panicking ({ v := v, recovered := true } :: older) } :: cs)) w := by
 have he := mk_eval b n S D (.inRegion ops (i :: rest) :: k)
 simp only [mk, hro] at he
 have hf := mk_finish (n := n) b S D ops i rest k o ho v
 have e1 : stepG P main (G (mk b n S D (.inRegion ops (i :: rest) :: k)) (c0 :: cs)) w = stepG.apply P true (mk b n S D (.inRegion ops (i :: rest) :: k)) (c0 :: cs) none (execOp (ev n S) o) w := by
  simp only [stepG, stepG.exec, stepG.oper, Frame.oper?, mk, ho, he, Option.map_some, Option.getD_some, hw, if_true, hro, hop]
 have e2 : tryRecover (mk b n S D (.inRegion ops (i :: rest) :: k)) (c0 :: cs) = some (v, { c0 with mode := .panicking ({ v := v, recovered := true } :: older) } :: cs) := by
  simp only [tryRecover, mk, hbk, hm]
 have e3 : (mk b n S D (.inRegion ops (i :: rest) :: k)).roundOf = none := hro
 rw [e1]
 unfold stepG.apply
 simp only [exec_recover hop, if_true, e3, e2, hf]
 split <;> simp_all [seen_nil, after_nil]
theorem step_norec {ats : Array TypeId} {c0 : Frame} (ho : ops[i]? = some o) (hw : Region.wanted o (yielded ops (arr n S)) = true) (hop : o.op = .call { callee := .builtin .recover, args := #[], argTypes := ats }) (hbk : b.kind = .deferred) (hro : b.roundOf = none)
  (hm : c0.mode = .returning) :
  stepG P main (G (mk b n S D (.inRegion ops (i :: rest) :: k)) (c0 :: cs)) w = .go (G (mk b n (put S o.dst .nilIface) D (.inRegion ops rest :: k)) (c0 :: cs)) w := by
 have he := mk_eval b n S D (.inRegion ops (i :: rest) :: k)
 simp only [mk, hro] at he
 have hf := mk_finish (n := n) b S D ops i rest k o ho .nilIface
 have e1 : stepG P main (G (mk b n S D (.inRegion ops (i :: rest) :: k)) (c0 :: cs)) w = stepG.apply P true (mk b n S D (.inRegion ops (i :: rest) :: k)) (c0 :: cs) none (execOp (ev n S) o) w := by
  simp only [stepG, stepG.exec, stepG.oper, Frame.oper?, mk, ho, he, Option.map_some, Option.getD_some, hw, if_true, hro, hop]
 have e2 : tryRecover (mk b n S D (.inRegion ops (i :: rest) :: k)) (c0 :: cs) = none := by
  simp only [tryRecover, mk, hbk, hm]
 have e3 : (mk b n S D (.inRegion ops (i :: rest) :: k)).roundOf = none := hro
 rw [e1]
 unfold stepG.apply
 simp only [exec_recover hop, if_true, e3, e2, hf]
 split <;> simp_all [seen_nil, after_nil]
theorem step_back {g : FuncId} {gn : Func} {c0 : Frame} {todo : List Item} {v : Value} (hg : P.funcs[g]? = some gn) (hres : gn.results = #[]) (hbf : b.fn = g) (hbk : b.kind = .deferred) (hm : c0.mode = .returning ∨ c0.mode = .panicking [{ v := v, recovered := true }]) :
  stepG P main (G { mk b n S [] todo with mode := .returning } (c0 :: cs)) w = .go (G { c0 with mode := .returning } cs) w := by
 subst hbf
 have hr : ∀ w, (results gn (arr n S)).runT P w #[] = (.ok (.tuple #[]) w, #[]) := fun w => by
  exact Prod.ext ((Sem.runT_fst _ _ _ _).trans (results_none hres _ P w)) (events_results_none hres _ _)
 rcases hm with hm | hm
 ·have e : c0 = { c0 with mode := .returning } := by cases c0; simp at hm; subst hm; rfl
  simp only [stepG, unwind, mk, hg, hr w, doReturn, hbk, hm]
  simp [seen_nil, after_nil]
  exact e
 ·simp only [stepG, unwind, mk, hg, hr w, doReturn, hbk, hm]
  simp [seen_nil, after_nil]
end
section
variable {P : Program} {n : Nat} {K : Value → AH → Prop}
def Clo (P : Program) (m : Nat) (ops0 : Array Oper) (c2 : Code) (t : Tmp) (x : Value) (caps : Array Value) (L : Pv) (h : AH) (Q : Pv → AH → Prop) : Prop :=
 Nat.ble caps.size m = true ∧ Goes P m none ([.inRegion ops0 [1]] ++ [.code c2]) (fun e _ D L' h' => (e = .normal ∨ e = .ret) ∧ D = [] ∧ Q L' h') (put (argS caps) (some t) x) [] L h
def doneK (P : Program) (n : Nat) (fn : Func) (K : Value → AH → Prop) (S : Sl) (L : Pv) (h : AH) : Prop := Valid h L → dem P (results fn (arr n S)) (wl h L) K noE
def deferK (P : Program) (n : Nat) (fn : Func) (K : Value → AH → Prop) (g : FuncId) (m : Nat) (ops0 : Array Oper) (c2 : Code) (t : Tmp) : Post
 | .normal, S, D, L, h => (D = [] ∧ doneK P n fn K S L h) ∨ ∃ caps, D = [laterF g caps] ∧ Clo P m ops0 c2 t .nilIface caps L h (fun L2 h2 => doneK P n fn K S L2 h2)
 | .ret, S, D, L, h => (D = [] ∧ doneK P n fn K S L h) ∨ ∃ caps, D = [laterF g caps] ∧ Clo P m ops0 c2 t .nilIface caps L h (fun L2 h2 => doneK P n fn K S L2 h2)
 | .panic v, S, D, L, h => ∃ caps, D = [laterF g caps] ∧ Clo P m ops0 c2 t v caps L h (fun L2 h2 => doneK P n fn K S L2 h2)
 | .exit _, _, _, _, _ => False
theorem call_defer {f : FuncId} {fn : Func} {c : Code} {args : Array Value} {h : AH} (hf : P.funcs[f]? = some fn) (hb : fn.body = some c) (hn : fn.ntmps = n) (ha : Nat.ble args.size n = true)
  {g : FuncId} {gn : Func} {id0 : Nat} {ops0 : Array Oper} {c2 : Code} {m : Nat} {o0 : Oper} {t : Tmp} {ats : Array TypeId} (hg : P.funcs[g]? = some gn) (hname : (gn.name == "runtime.NumGoroutine") = false) (hgb : gn.body = some (.seq (.region id0 ops0 false) c2)) (hgm : gn.ntmps = m) (hres : gn.results = #[])
  (h0 : ops0[0]? = some o0) (hop : o0.op = .call { callee := .builtin .recover, args := #[], argTypes := ats }) (hd : o0.dst = some t) (hgd : o0.guard = none) (hsz : ops0.size = 2)
  (w : xp P n none c (deferK P n fn K g m ops0 c2 t) (argS args) [] [] h) : CallT P f args h K noE := by
 intro hfin c0 cs
 have he : Frame.enter P f args .normal = mk { (default : Frame) with fn := f, kind := .normal, roundOf := none } n (argS args) [] [.code c] := by
  simp [Frame.enter, mk, hf, hb, hn, enter_tmps n args (Nat.le_of_ble_eq_true ha)]
 rw [he]
 have w1 := w h (by have := Fits.nil (valid_nil hfin); rw [wl_nil] at this; exact this) { (default : Frame) with fn := f, kind := .normal, roundOf := none } rfl [] (c0 :: cs)
 obtain ⟨b, hbdef⟩ : ∃ b : Frame, b = { (default : Frame) with fn := f, kind := .normal, roundOf := none } := ⟨_, rfl⟩
 have hbf : b.fn = f := by rw [hbdef]
 have hbk : b.kind = .normal := by rw [hbdef]
 have hbr : b.roundOf = none := by rw [hbdef]
 rw [← hbdef] at w1 ⊢
 -- the way back, when nothing is put off any more
 have back : ∀ (S : Sl) (L : Pv) (h' H : AH) (todo : List Item), Fits h' L [] H → doneK P n fn K S L h' →
   Rch P (fun fr cs' h' => cs' = cs ∧ ((∃ v, fr = c0.finish v ∧ K v h') ∨ (∃ v, fr = c0.raise [{ v := v, recovered := false }] ∧ noE v h'))) { mk b n S [] todo with mode := .returning } (c0 :: cs) H := by
  intro S L h' H todo V kk
  refine ret_run hf c0 cs b hbf hbk S L todo [] h' H V rfl (fun h2 _ e V2 => ?_)
  rw [e rfl] at V2 ⊢
  exact kk V2
 -- the closure is run
 have run : ∀ (S : Sl) (L : Pv) (h' H : AH) (todo : List Item) (caps : Array Value) (x : Value) (md md' : FrameMode), Fits h' L [laterF g caps] H → (md = .returning ∨ ∃ ch, md = .panicking ch) →
   (∀ (b' : Frame) (S' : Sl) (k : List Item) (c1 : Frame) (cs' : List Frame) main w, c1.mode = md → b'.kind = .deferred → b'.roundOf = none → stepG P main (G (mk b' m S' [] (.inRegion ops0 (0 :: [1]) :: k)) (c1 :: cs')) w = .go (G (mk b' m (put S' o0.dst x) [] (.inRegion ops0 [1] :: k)) ({ c1 with mode := md' } :: cs')) w) →
   (md' = .returning ∨ md' = .panicking [{ v := x, recovered := true }]) →
   Clo P m ops0 c2 t x caps L h' (fun L2 h2 => doneK P n fn K S L2 h2) →
   Rch P (fun fr cs' h' => cs' = cs ∧ ((∃ v, fr = c0.finish v ∧ K v h') ∨ (∃ v, fr = c0.raise [{ v := v, recovered := false }] ∧ noE v h'))) { mk b n S [laterF g caps] todo with mode := md } (c0 :: cs) H := by
  intro S L h' H todo caps x md md' V hmd hrec hmd' clo
  obtain ⟨hcs, clo⟩ := clo
  have hH : Fits h' L [] H := ⟨V.valid, by rw [mkH_nil]; exact disj_nil _, List.nodup_nil, by rw [V.eq]; rfl⟩
  refine .ctl (fr' := Frame.enter P g caps .deferred) (cs' := { mk b n S [] todo with mode := md } :: c0 :: cs) (fun main w => step_later hg hname hgb hmd) ?_
  have he2 : Frame.enter P g caps .deferred = mk { (default : Frame) with fn := g, kind := .deferred, roundOf := none } m (argS caps) [] [.code (.seq (.region id0 ops0 false) c2)] := by
   simp [Frame.enter, mk, hg, hgb, hgm, enter_tmps m caps (Nat.le_of_ble_eq_true hcs)]
  rw [he2]
  refine .ctl (fr' := mk { (default : Frame) with fn := g, kind := .deferred, roundOf := none } m (argS caps) [] [.code (.region id0 ops0 false), .code c2]) (cs' := { mk b n S [] todo with mode := md } :: c0 :: cs) (fun main w => by simp [stepG, stepG.exec, mk]) ?_
  refine .ctl (fr' := mk { (default : Frame) with fn := g, kind := .deferred, roundOf := none } m (argS caps) [] [.inRegion ops0 (0 :: [1]), .code c2]) (cs' := { mk b n S [] todo with mode := md } :: c0 :: cs) (fun main w => by simp [stepG, stepG.exec, mk, hsz]; rfl) ?_
  refine .ctl (fr' := mk { (default : Frame) with fn := g, kind := .deferred, roundOf := none } m (put (argS caps) (some t) x) [] ([.inRegion ops0 [1]] ++ [.code c2] ++ [])) (cs' := { mk b n S [] todo with mode := md' } :: c0 :: cs) (fun main w => by rw [← hd]; exact hrec _ _ _ _ _ main w rfl rfl rfl) ?_
  refine (clo H hH _ rfl [] ({ mk b n S [] todo with mode := md' } :: c0 :: cs)).bind ?_
  rintro fr cs' H' ⟨rfl, e, S', D', L', h2, V', ⟨hex, rfl, q⟩, a⟩
  have fin : ∀ todo', Rch P (fun fr cs' h' => cs' = cs ∧ ((∃ v, fr = c0.finish v ∧ K v h') ∨ (∃ v, fr = c0.raise [{ v := v, recovered := false }] ∧ noE v h'))) { mk { (default : Frame) with fn := g, kind := .deferred, roundOf := none } m S' [] todo' with mode := .returning } ({ mk b n S [] todo with mode := md' } :: c0 :: cs) H' := fun todo' => by
   refine .ctl (fr' := { mk b n S [] todo with mode := .returning }) (cs' := c0 :: cs) (fun main w => step_back (c0 := { mk b n S [] todo with mode := md' }) (v := x) hg hres rfl rfl hmd') (back S L' h2 H' todo V' q)
  rcases hex with rfl | rfl
  ·have a' : fr = mk { (default : Frame) with fn := g, kind := .deferred, roundOf := none } m S' [] [] := a
   subst a'
   exact .ctl (fr' := { mk { (default : Frame) with fn := g, kind := .deferred, roundOf := none } m S' [] [] with mode := .returning }) (cs' := { mk b n S [] todo with mode := md' } :: c0 :: cs) (fun main w => by simp [stepG, stepG.exec, mk]) (fin [])
  ·obtain ⟨todo', rfl⟩ := a.1 rfl
   exact fin todo'
 have hw0 : ∀ S' : Sl, Region.wanted o0 (yielded ops0 (arr m S')) = true := fun S' => by simp [Region.wanted, hgd]
 have ret : ∀ (S : Sl) (D : Df) (L : Pv) (h' H : AH) (todo : List Item), Fits h' L D H → ((D = [] ∧ doneK P n fn K S L h') ∨ ∃ caps, D = [laterF g caps] ∧ Clo P m ops0 c2 t .nilIface caps L h' (fun L2 h2 => doneK P n fn K S L2 h2)) →
   Rch P (fun fr cs' h' => cs' = cs ∧ ((∃ v, fr = c0.finish v ∧ K v h') ∨ (∃ v, fr = c0.raise [{ v := v, recovered := false }] ∧ noE v h'))) { mk b n S D todo with mode := .returning } (c0 :: cs) H := by
  rintro S D L h' H todo V (⟨rfl, kk⟩ | ⟨caps, rfl, clo⟩)
  ·exact back S L h' H todo V kk
  ·refine run S L h' H todo caps .nilIface .returning .returning V (.inl rfl) ?_ (.inl rfl) clo
   intro b' S' k c1 cs' main w hm hk hr
   have hc1 : c1 = { c1 with mode := .returning } := by cases c1; simp at hm; subst hm; rfl
   rw [← hc1]
   exact step_norec h0 (hw0 S') hop hk hr hm
 refine w1.bind ?_
 rintro fr cs' H ⟨rfl, e, S', D', L', h', V', kk, a⟩
 cases e with
 | normal =>
  have a' : fr = mk b n S' D' [] := a
  subst a'
  exact .ctl (fr' := { mk b n S' D' [] with mode := .returning }) (cs' := c0 :: cs) (fun main w => by simp [stepG, stepG.exec, mk, hbr]) (ret S' D' L' h' H [] V' kk)
 | ret =>
  obtain ⟨todo, rfl⟩ := a.1 (by rw [hbdef])
  exact ret S' D' L' h' H todo V' kk
 | panic v =>
  obtain ⟨todo, rfl⟩ := a
  obtain ⟨caps, rfl, clo⟩ := kk
  refine run S' L' h' H todo caps v (.panicking [{ v := v, recovered := false }]) (.panicking [{ v := v, recovered := true }]) V' (.inr ⟨_, rfl⟩) ?_ (.inr rfl) clo
  intro b' S2 k c1 cs' main w hm hk hr
  exact step_recover h0 (hw0 S2) hop hk hr hm
 | exit id => exact kk.elim
end
end Go.HL
namespace Go.HL
open Go
variable [Lvl]
section
variable {P : Program} {n : Nat} {d : Option Tmp} {ty : TypeId} {ps : String} {af : Array Edge} {S : Sl}
theorem pv_sliceHi {x hi : Operand} {t e : TypeId} {m len cap : Nat} {A : Option Addr} (j : Nat) {k2 : IntKind} {j' : Int} (hx : ev n S x = .slice A len cap) (hh : ev n S hi = .int k2 j') (ej : j' = j) (ht : pev P (underlying t) = some (.slice e)) (hs : pev P (sizeOf e) = some m) (hjc : j ≤ cap) :
  pev P (execOp (ev n S) ⟨d, .slice t x none (some hi) none, ty, ps, af, none⟩) = some (.value (.slice A j cap)) := by
 subst ej
 simp only [execOp, hx, hh, Option.map]
 refine (wU (a := .slice A j cap) ?_).trans rfl
 unfold Instr.sliceAt
 refine (wG ht).trans ?_
 simp only
 unfold Instr.slice
 refine (wG ht).trans ?_
 simp only
 have hb : pev P (Instr.sliceBounds true len cap none (some (.int k2 (j : Int))) none) = some (0, j, cap) := by
  unfold Instr.sliceBounds
  refine (wG (a := cap) rfl).trans ?_
  have h1 : pev P (Instr.sliceBound (.int k2 (j : Int)) cap .sliceAcap) = some j := by
   unfold Instr.sliceBound
   refine (wG (a := (k2, (j : Int))) rfl).trans ?_
   simp only
   rw [if_pos ⟨by omega, by omega⟩]
   rfl
  refine (wG h1).trans ?_
  rfl
 refine (wG hb).trans ?_
 simp only
 refine (wG hs).trans ?_
 have e0 : (if cap = 0 then A else A.map (·.add (0 * m))) = A := by
  split
  ·rfl
  ·cases A <;> simp [Addr.add]
 show some (Value.slice (if cap = 0 then A else A.map (·.add (0 * m))) (j - 0) (cap - 0)) = _
 rw [e0]
 rfl
theorem pv_sliceLo {x lo : Operand} {t e : TypeId} {m len cap : Nat} {A : Option Addr} (i : Nat) {k : IntKind} {i' : Int} (hx : ev n S x = .slice A len cap) (hl : ev n S lo = .int k i') (ei : i' = i) (ht : pev P (underlying t) = some (.slice e)) (hs : pev P (sizeOf e) = some m) (hij : i ≤ len) (hc : len ≤ cap) :
  pev P (execOp (ev n S) ⟨d, .slice t x (some lo) none none, ty, ps, af, none⟩) = some (.value (.slice (if cap = i then A else A.map (·.add (i * m))) (len - i) (cap - i))) := by
 subst ei
 simp only [execOp, hx, hl, Option.map]
 refine (wU (a := .slice (if cap = i then A else A.map (·.add (i * m))) (len - i) (cap - i)) ?_).trans rfl
 unfold Instr.sliceAt
 refine (wG ht).trans ?_
 simp only
 unfold Instr.slice
 refine (wG ht).trans ?_
 simp only
 have hb : pev P (Instr.sliceBounds true len cap (some (.int k (i : Int))) none none) = some (i, len, cap) := by
  unfold Instr.sliceBounds
  refine (wG (a := cap) rfl).trans ?_
  have h1 : ∀ f, pev P (Instr.sliceBound (.int .i64 (len : Int)) cap f) = some len := by
   intro f
   unfold Instr.sliceBound
   refine (wG (a := (IntKind.i64, (len : Int))) rfl).trans ?_
   simp only
   rw [if_pos ⟨by omega, by omega⟩]
   rfl
  have h2 : pev P (Instr.sliceBound (.int k (i : Int)) len .sliceB) = some i := by
   unfold Instr.sliceBound
   refine (wG (a := (k, (i : Int))) rfl).trans ?_
   simp only
   rw [if_pos ⟨by omega, by omega⟩]
   rfl
  first
  | (refine (wG (a := len) rfl).trans ?_; refine (wG h2).trans ?_; rfl)
  | (refine (wG (a := len) (h1 _)).trans ?_; refine (wG h2).trans ?_; rfl)
 refine (wG hb).trans ?_
 simp only
 refine (wG hs).trans ?_
 rfl
end
end Go.HL
namespace Go.HL
open Go
variable [Lvl]
section
variable {P : Program} {n : Nat} {d : Option Tmp} {ty : TypeId} {ps : String} {af : Array Edge} {S : Sl}
theorem pv_slice3 {x lo hi mx : Operand} {t e : TypeId} {m len cap : Nat} {A : Option Addr} (i j q : Nat) {k k2 k3 : IntKind} {i' j' q' : Int} (hx : ev n S x = .slice A len cap) (hl : ev n S lo = .int k i') (hh : ev n S hi = .int k2 j') (hm : ev n S mx = .int k3 q') (ei : i' = i) (ej : j' = j) (eq : q' = q) (ht : pev P (underlying t) = some (.slice e)) (hs : pev P (sizeOf e) = some m) (hij : i ≤ j) (hjq : j ≤ q) (hqc : q ≤ cap) :
  pev P (execOp (ev n S) ⟨d, .slice t x (some lo) (some hi) (some mx), ty, ps, af, none⟩) = some (.value (.slice (if q = i then A else A.map (·.add (i * m))) (j - i) (q - i))) := by
 subst ei ej eq
 simp only [execOp, hx, hl, hh, hm, Option.map]
 refine (wU (a := .slice (if q = i then A else A.map (·.add (i * m))) (j - i) (q - i)) ?_).trans rfl
 unfold Instr.sliceAt
 refine (wG ht).trans ?_
 simp only
 unfold Instr.slice
 refine (wG ht).trans ?_
 simp only
 have hb : pev P (Instr.sliceBounds true len cap (some (.int k (i : Int))) (some (.int k2 (j : Int))) (some (.int k3 (q : Int)))) = some (i, j, q) := by
  unfold Instr.sliceBounds
  have h0 : pev P (Instr.sliceBound (.int k3 (q : Int)) cap .slice3Acap) = some q := by
   unfold Instr.sliceBound
   refine (wG (a := (k3, (q : Int))) rfl).trans ?_
   simp only
   rw [if_pos ⟨by omega, by omega⟩]
   rfl
  have h1 : pev P (Instr.sliceBound (.int k2 (j : Int)) q .slice3B) = some j := by
   unfold Instr.sliceBound
   refine (wG (a := (k2, (j : Int))) rfl).trans ?_
   simp only
   rw [if_pos ⟨by omega, by omega⟩]
   rfl
  have h2 : pev P (Instr.sliceBound (.int k (i : Int)) j .slice3C) = some i := by
   unfold Instr.sliceBound
   refine (wG (a := (k, (i : Int))) rfl).trans ?_
   simp only
   rw [if_pos ⟨by omega, by omega⟩]
   rfl
  refine (wG h0).trans ?_
  refine (wG h1).trans ?_
  refine (wG h2).trans ?_
  rfl
 refine (wG hb).trans ?_
 simp only
 refine (wG hs).trans ?_
 rfl
end
section
variable {P : Program} {n : Nat} {ops : Array Oper} {os : List Oper} {K : Sl → Pv → AH → Prop} {E : Value → Sl → Pv → AH → Prop} {S : Sl} {L : Pv} {h : AH} {d : Option Tmp} {ty : TypeId} {ps : String} {af : Array Edge}
theorem op_copyP (i : Nat) {sT xT e e' : TypeId} {x y : Operand} {m b o dl dc lx cx k : Nat} {A : Option Addr} {cs cs' xs : List Value} (hx : ev n S x = .slice (some ⟨b, o, none⟩) dl dc) (hy : ev n S y = .slice A lx cx) (hi : L[i]? = some (some (b, .cells cs.toArray e' (0, 0)))) (hk : Nat.min lx dl = k)
  (hr : Valid h L → Rd (wl h L) A xs) (hl : xs.length = k * m) (hp : xs.all plainB = true) (ht : pev P (underlying sT) = some (.slice e)) (hs : pev P (sizeOf e) = some m) (hb : o + xs.length ≤ cs.length) (hw : wrL cs o xs = cs')
  (kk : wpL P n ops os K E (put S d (.int .i64 k)) (L.set i (some (b, .cells cs'.toArray e' (0, 0)))) h) : wpL P n ops (⟨d, .call ⟨.builtin .copy, #[x, y], #[sT, xT]⟩, ty, ps, af, none⟩ :: os) K E S L h := by
 refine op_of fun V => ?_
 unfold opW
 rw [exec_builtin (xs := [x, y]) (vs := [.slice (some ⟨b, o, none⟩) dl dc, .slice A lx cx]) (by simp [hx, hy])]
 refine qP ?_
 show dem P (Builtin.copy_ #[sT, xT] ty #[.slice (some ⟨b, o, none⟩) dl dc, .slice A lx cx]) _ _ _
 unfold Builtin.copy_
 refine qM ht ?_
 simp only
 refine qM (a := lx) rfl (qM hs ?_)
 rw [hk]
 refine qP (rd_cells (hr V) hl ?_)
 refine qP (dem_storeFrom xs _ cs.toArray o 0 (wX V hi) (by simp; omega) hp ?_)
 rw [wl_set V hi, Nat.add_zero, wr_list, hw]
 exact ⟨_, h, rfl, valid_set V hi, kk⟩
theorem op_clearP (i : Nat) {sT e e' : TypeId} {x : Operand} {m b o dl dc : Nat} {cs cs' zc : List Value} {z : Value} (hx : ev n S x = .slice (some ⟨b, o, none⟩) (dl + 1) dc) (hi : L[i]? = some (some (b, .cells cs.toArray e' (0, 0))))
  (ht : pev P (underlying sT) = some (.slice e)) (hz : pev P (zeroValue e) = some z) (hzc : z.cells = zc.toArray) (hp : zc.all plainB = true) (hzl : zc.length = m) (hb : o + (dl + 1) * m ≤ cs.length) (hw : wrL cs o ((List.range ((dl + 1) * m)).map fun i => zc[i % zc.length]!) = cs')
  (kk : wpL P n ops os K E (put S d (.tuple #[])) (L.set i (some (b, .cells cs'.toArray e' (0, 0)))) h) : wpL P n ops (⟨d, .call ⟨.builtin .clear, #[x], #[sT]⟩, ty, ps, af, none⟩ :: os) K E S L h := by
 refine op_of fun V => ?_
 unfold opW
 rw [exec_builtin (xs := [x]) (vs := [.slice (some ⟨b, o, none⟩) (dl + 1) dc]) (by simp [hx])]
 refine qP ?_
 show dem P (Builtin.clear_ #[sT] ty #[.slice (some ⟨b, o, none⟩) (dl + 1) dc]) _ _ _
 unfold Builtin.clear_
 refine qM ht ?_
 show dem P (zeroValue e >>= fun z => ((storeCells ⟨b, o, none⟩ (Builtin.zeroCells z.cells (dl + 1)).toList) >>= fun _ => pure (Value.tuple #[]))) _ _ _
 refine qM hz (qP ?_)
 have e1 : (Builtin.zeroCells z.cells (dl + 1)).toList = (List.range ((dl + 1) * m)).map fun i => zc[i % zc.length]! := by
  rw [hzc]
  unfold Builtin.zeroCells
  rw [List.size_toArray, hzl]
  have := range_map zc ((dl + 1) * m)
  rw [List.size_toArray, hzl] at this
  rw [this, ← hzl]
 rw [e1]
 refine dem_storeFrom _ _ cs.toArray o 0 (wX V hi) (by simp; omega) ?_ ?_
 ·rw [List.all_map, List.all_eq_true]
  intro j _
  rw [List.all_eq_true] at hp
  show plainB (zc[j % zc.length]!) = true
  by_cases h0 : zc.length = 0
  ·rw [List.length_eq_zero_iff.1 h0]; rfl
  ·have hlt := Nat.mod_lt j (Nat.pos_of_ne_zero h0)
   rw [getElem!_pos zc _ hlt]
   exact hp _ (List.getElem_mem hlt)
 ·rw [wl_set V hi, Nat.add_zero, wr_list, hw]
  exact ⟨_, h, rfl, valid_set V hi, kk⟩
theorem op_appendIn (i : Nat) {sT xT e e' e2 : TypeId} {x y : Operand} {m b len cap lx cx : Nat} {A : Option Addr} {cs cs' xs : List Value} (hx : ev n S x = .slice (some ⟨b, 0, none⟩) len cap) (hy : ev n S y = .slice A lx cx) (hi : L[i]? = some (some (b, .cells cs.toArray e' (0, 0))))
  (hr : Valid h L → Rd (wl h L) A xs) (hl : xs.length = lx * m) (hp : xs.all plainB = true) (ht : pev P (underlying sT) = some (.slice e)) (hu : pev P (underlying xT) = some (.slice e2)) (hs : pev P (sizeOf e) = some m) (hc : len + lx ≤ cap) (hb : len * m + xs.length ≤ cs.length) (hw : wrL cs (len * m) xs = cs')
  (kk : wpL P n ops os K E (put S d (.slice (some ⟨b, 0, none⟩) (len + lx) cap)) (L.set i (some (b, .cells cs'.toArray e' (0, 0)))) h) : wpL P n ops (⟨d, .call ⟨.builtin .append, #[x, y], #[sT, xT]⟩, ty, ps, af, none⟩ :: os) K E S L h := by
 refine op_of fun V => ?_
 unfold opW
 rw [exec_builtin (xs := [x, y]) (vs := [.slice (some ⟨b, 0, none⟩) len cap, .slice A lx cx]) (by simp [hx, hy])]
 refine qP ?_
 show dem P (Builtin.append_ #[sT, xT] ty #[.slice (some ⟨b, 0, none⟩) len cap, .slice A lx cx]) _ _ _
 unfold Builtin.append_
 refine qM ht (qM hs ?_)
 refine qM hu (qM (a := false) rfl ?_)
 simp only [Bool.false_eq_true, if_false, Bool.not_false, if_true]
 refine qM (a := lx) rfl ?_
 rw [if_pos hc]
 refine qP (rd_cells (hr V) hl ?_)
 refine qP ?_
 show dem P (storeCells ((⟨b, 0, none⟩ : Addr).add (len * m)) xs) _ _ _
 rw [add_none]
 refine dem_storeFrom xs _ cs.toArray (0 + len * m) 0 (wX V hi) (by simp; omega) hp ?_
 rw [wl_set V hi, Nat.add_zero, wr_list, Nat.zero_add, hw]
 exact ⟨_, h, rfl, valid_set V hi, kk⟩
theorem op_appendMake {sT xT e : TypeId} {x y : Operand} {m len cap k : Nat} {A : Option Addr} {cs : List Value} {z : Value} {zc : List Value} {inf : TypeInfo} {ik : IntKind} {k' : Int} (hx : ev n S x = .slice A len cap) (hy : ev n S y = .int .i64 k') (ek : k' = k)
  (hr : Valid h L → Rd (wl h L) A cs) (hl : cs.length = len * m) (ht : pev P (underlying sT) = some (.slice e)) (hu : pev P (underlying xT) = some (.int ik)) (hi' : pev P (typeInfo e) = some inf) (hs : pev P (sizeOf e) = some m)
  (hz : pev P (zeroValue e) = some z) (hzc : z.cells = zc.toArray) (hzl : zc.length = m) (hm : 0 < m) (hby : Nat.ble inf.bytes 1024 = true) (hsmall : len + k < 2 ^ 30) (hk0 : 0 < k) (hcap : cap < len + k)
  (kk : ∀ (b cap' : Nat) (junk : List Value), wl h L b = none → junk.length + len * m = cap' * m → len + k ≤ cap' → wpL P n ops os K E (put S d (.slice (some ⟨b, 0, none⟩) (len + k) cap')) (L ++ [some (b, .cells (cs ++ junk).toArray e (0, 0))]) h) :
  wpL P n ops (⟨d, .call ⟨.builtin .append, #[x, y], #[sT, xT]⟩, ty, ps, af, none⟩ :: os) K E S L h := by
 subst ek
 refine op_of fun V => ?_
 have hby' := Nat.le_of_ble_eq_true hby
 unfold opW
 rw [exec_builtin (xs := [x, y]) (vs := [.slice A len cap, .int .i64 (k : Int)]) (by simp [hx, hy])]
 refine qP ?_
 show dem P (Builtin.append_ #[sT, xT] ty #[.slice A len cap, .int .i64 (k : Int)]) _ _ _
 unfold Builtin.append_
 refine qM ht (qM hs ?_)
 refine qM hu (qM (a := true) rfl ?_)
 simp only [if_true, Bool.not_true, Bool.false_eq_true, if_false]
 have hwr : IntKind.i64.wrap (k : Int) = k := IntWalk.i64_in _ (by omega)
 refine qM (s := asInt (.int .i64 (k : Int))) (a := (k : Int)) rfl ?_
 simp only [hwr]
 rw [if_neg (by omega)]
 have hmul : (k : Int) * (inf.bytes : Int) ≤ 2 ^ 30 * 1024 := by
  have h1 : k * inf.bytes ≤ 2 ^ 30 * 1024 := Nat.mul_le_mul (by omega) hby'
  have h2 : ((k * inf.bytes : Nat) : Int) ≤ ((2 ^ 30 * 1024 : Nat) : Int) := by exact_mod_cast h1
  simpa using h2
 refine qM hi' ?_
 rw [if_neg (by omega)]
 refine qM (a := (k : Int).toNat) rfl ?_
 simp only [Int.toNat_natCast]
 rw [if_neg (by omega)]
 have hneed : len + k < 2 ^ 30 := hsmall
 have hcapb : Builtin.nextslicecap (len + k) cap * inf.bytes ≤ 2 * 2 ^ 30 * 1024 := Nat.mul_le_mul (Nat.le_trans (nextslicecap_le (by omega)) (by omega)) hby'
 have hmx : ¬ ((len + k : Nat) : Int) > IntKind.i64.max := by
  show ¬ ((len + k : Nat) : Int) > 9223372036854775807
  omega
 refine qM hi' ?_
 rw [if_neg (fun y => hmx y.1)]
 refine qM hi' ?_
 rw [if_neg (by omega)]
 refine qP ?_
 intro t
 show dem P _ _ _ _
 refine qM hi' ?_
 refine qP ?_
 have hroom : ∀ (q : Nat) {K' : Unit → AH → Prop} {E' : Value → AH → Prop} {H : AH}, K' () H → dem P (askRoom q) H K' E' := by
  intro q K' E' H kk
  unfold askRoom
  split
  ·exact ⟨rfl, kk⟩
  ·exact kk
 refine hroom _ ?_
 refine qP (rd_cells (hr V) hl ?_)
 have hkm : ¬ k * m = 0 := fun h0 => by rcases Nat.mul_eq_zero.1 h0 with h0 | h0 <;> omega
 rw [if_neg hkm]
 refine qM (a := Builtin.zeroCells z.cells k) ((wG hz).trans rfl) (qM hz ?_)
 rw [hzc]
 obtain ⟨j, hj, hjl⟩ := zeroCells_list zc ((Question.appendCap (len + k) cap e).cut t - (len + k))
 obtain ⟨j0, hj0, hjl0⟩ := zeroCells_list zc k
 rw [hj, hj0]
 refine qP (qP ?_)
 intro b hb
 have hge : len + k ≤ (Question.appendCap (len + k) cap e).cut t := Nat.le_add_right _ _
 have ea : cs.toArray ++ j0.toArray ++ j.toArray = (cs ++ (j0 ++ j)).toArray := by simp
 rw [ea]
 have hlen : (j0 ++ j).length + len * m = (Question.appendCap (len + k) cap e).cut t * m := by
  rw [List.length_append, hjl, hjl0, hzl, ← Nat.add_mul, ← Nat.add_mul]
  congr 1
  omega
 exact ⟨_, h, wl_new hb _, valid_new V hb _, kk b _ (j0 ++ j) hb hlen hge⟩
theorem op_overlaps {x : Operand} {xs : List Operand} {ats : Array TypeId} {g : FuncId} {fn : Func} {tS e e1 e2 : TypeId} {size a b la ca lb cb oa ob : Nat} {rs : Array TypeId} {c1 c2 : Array Value} (hf : ev n S x = .func (.func g) #[] #[]) (hg : P.funcs[g]? = some fn) (hname : (fn.name == "runtime.NumGoroutine") = false) (hb : fn.body.isNone = true)
  (hn : Extern.findNext fn = none) (he : Extern.find fn = some (Extern.SlicesOverlaps.overlaps #[tS, tS] rs)) (hx : xs.map (ev n S) = [.slice (some ⟨a, oa, none⟩) la ca, .slice (some ⟨b, ob, none⟩) lb cb]) (ht : pev P (underlying tS) = some (.slice e)) (hs : pev P (sizeOf e) = some size)
  (h1 : Valid h L → wl h L a = some (.cells c1 e1 (0, 0))) (h2 : Valid h L → wl h L b = some (.cells c2 e2 (0, 0))) (hne : Valid h L → a ≠ b)
  (kk : wpL P n ops os K E (put S d (.bool false)) L h) : wpL P n ops (⟨d, .call ⟨.value x, xs.toArray, ats⟩, ty, ps, af, none⟩ :: os) K E S L h := by
 refine op_of fun V => ?_
 unfold opW
 rw [exec_call (caps := []) (vs := [.slice (some ⟨a, oa, none⟩) la ca, .slice (some ⟨b, ob, none⟩) lb cb]) (by simpa using hf) (by rw [List.append_nil]; exact hx)]
 have h1' := h1 V
 have h2' := h2 V
 have hne := hne V
 have hab : ((⟨a, oa, none⟩ : Addr).block != (⟨b, ob, none⟩ : Addr).block) = true := by simpa using hne
 have hba : ((⟨a, oa, none⟩ : Addr).block == (⟨b, ob, none⟩ : Addr).block) = false := by simpa using hne
 show dem P (match P.funcs[g]? with | none => _ | some fn => _) _ _ _
 rw [hg]
 simp only [hname, hb, Bool.false_eq_true, if_false, if_true]
 refine ⟨rfl, ?_⟩
 simp only [hn, he]
 show dem P (Extern.SlicesOverlaps.overlaps #[tS, tS] rs #[.slice (some ⟨a, oa, none⟩) la ca, .slice (some ⟨b, ob, none⟩) lb cb] >>= fun v => pure (Next.value v)) _ _ _
 refine qP ?_
 have fz : ∀ (r o : Nat) (c : Array Value) (t : TypeId) {K' : Bool → AH → Prop} {E' : Value → AH → Prop}, wl h L r = some (.cells c t (0, 0)) → K' false (wl h L) → dem P (frozen ⟨r, o, none⟩) (wl h L) K' E' := by
  intro r o c t K' E' hr k
  refine ⟨_, hr, fun t ht => ?_⟩
  cases t with
  | false => exact k
  | true => exact absurd (ht rfl) (by simp [frozenO])
 change dem P (α := Value) (do
  let some t := (#[tS, tS] : Array TypeId)[0]? | stuck "slices.overlaps: no parameter types"
  let .slice elem ← underlying t | stuck "slices.overlaps: slice type expected"
  let size ← sizeOf elem
  match (some ⟨a, oa, none⟩ : Option Addr), (some ⟨b, ob, none⟩ : Option Addr) with
  | some a, some b =>
   if la = 0 ∨ lb = 0 ∨ size = 0 then pure (Value.bool false)
   else if a.block != b.block && (← frozen a) && (← frozen b) then unsupported .addressObserved
   else do
    if a.block != b.block then do
     noView a; noView b
     if ← mayBeOne a b then return Value.bool ((← choose (.extern "sameAddr.stringBytes" 2)) == 1)
    pure (Value.bool (a.block == b.block && a.off < b.off + lb * size && b.off < a.off + la * size))
  | _, _ => pure (Value.bool false)) _ _ _
 refine qM (s := underlying tS) ht ?_
 refine qM (s := sizeOf e) hs ?_
 by_cases h0 : la = 0 ∨ lb = 0 ∨ size = 0
 ·simp only [if_pos h0]
  exact ⟨L, h, rfl, V, kk⟩
 ·simp only [if_neg h0]
  refine qP (fz a oa _ _ h1' ?_)
  refine qP (fz b ob _ _ h2' ?_)
  simp only [Bool.and_false, Bool.false_eq_true, if_false, hab, if_true]
  have shp : ∀ (r : Nat) (c : Array Value) (t : TypeId) {K' : Option (TypeId × Nat) → AH → Prop} {E' : Value → AH → Prop}, wl h L r = some (.cells c t (0, 0)) → K' (some (t, c.size)) (wl h L) → dem P (shape r) (wl h L) K' E' := by
   intro r c t K' E' hr k
   exact ⟨_, hr, k⟩
  have nv : ∀ (r o : Nat) (c : Array Value) (t : TypeId) {K' : Unit → AH → Prop} {E' : Value → AH → Prop}, wl h L r = some (.cells c t (0, 0)) → K' () (wl h L) → dem P (noView ⟨r, o, none⟩) (wl h L) K' E' := by
   intro r o c t K' E' hr k
   unfold noView viewAt
   refine qP (qP (shp r c t hr ?_))
   exact k
  have st : ∀ (r o : Nat) (c : Array Value) (t : TypeId) {K' : Bool → AH → Prop} {E' : Value → AH → Prop}, wl h L r = some (.cells c t (0, 0)) → K' false (wl h L) → dem P (stringish ⟨r, o, none⟩) (wl h L) K' E' := by
   intro r o c t K' E' hr k
   unfold stringish
   refine qP (fz r o c t hr ?_)
   refine qP (shp r c t hr ?_)
   exact fz r c.size c t hr k
  refine qP (nv a oa _ _ h1' ?_)
  refine qP (nv b ob _ _ h2' ?_)
  have mb : ∀ {K' : Bool → AH → Prop} {E' : Value → AH → Prop}, K' false (wl h L) → dem P (mayBeOne ⟨a, oa, none⟩ ⟨b, ob, none⟩) (wl h L) K' E' := by
   intro K' E' k
   unfold mayBeOne
   refine qP (st a oa _ _ h1' ?_)
   refine qP (st b ob _ _ h2' ?_)
   refine qP (qP (shp a _ _ h1' ?_))
   refine qP (qP (shp b _ _ h2' ?_))
   exact k
  refine qP (mb ?_)
  have hba2 : (a == b) = false := by simpa using hne
  simp only [Bool.false_eq_true, if_false, hba2, Bool.false_and]
  exact ⟨L, h, rfl, V, kk⟩
end
end Go.HL
namespace Go.HL
open Go
variable [Lvl]
section
variable {P : Program} {n : Nat} {ops : Array Oper} {os : List Oper} {K : Sl → Pv → AH → Prop} {E : Value → Sl → Pv → AH → Prop} {S : Sl} {L : Pv} {h : AH} {d : Option Tmp} {ty : TypeId} {ps : String} {af : Array Edge}
theorem op_fnE {x : Operand} {xs : List Operand} {ats : Array TypeId} {g : FuncId} {caps vs : List Value} {R Q : Value → AH → Prop} (hf : ev n S x = .func (.func g) #[] caps.toArray) (hc : callable P g = true) (hx : xs.map (ev n S) ++ caps = vs) (c : FnE P g vs.toArray h R Q)
  (e : ∀ v h', Ext h h' → Q v h' → E v S L h') (k : ∀ v h', Ext h h' → R v h' → wpL P n ops os K E (put S d v) L h') : wpL P n ops (⟨d, .call ⟨.value x, xs.toArray, ats⟩, ty, ps, af, none⟩ :: os) K E S L h :=
 op_call hf hc hx (CallT.mono c (fun v h' r => k v h' r.1 r.2) (fun v h' r => e v h' r.1 r.2))
theorem pv_conv {x : Operand} {s t : TypeId} {q k : IntKind} {z z' : Int} {us : TypeDesc} (hx : ev n S x = .int q z) (hs : pev P (underlying s) = some us) (ht : pev P (underlying t) = some (.int k)) (hz : k.wrap z = z') :
  pev P (execOp (ev n S) ⟨d, .convert s t x, ty, ps, af, none⟩) = some (.value (.int k z')) := by
 subst hz
 simp only [execOp, hx]
 refine (wU (a := .int k (k.wrap z)) ?_).trans rfl
 unfold convert
 refine (wG hs).trans ?_
 refine (wG ht).trans ?_
 rfl
theorem pv_sliceLoS {x lo : Operand} {t e : TypeId} {m len cap : Nat} {A : Option Addr} (i : Nat) {A' : Option Addr} {l' c' : Nat} {k : IntKind} {i' : Int} (hx : ev n S x = .slice A len cap) (hl : ev n S lo = .int k i') (ei : i' = i) (ht : pev P (underlying t) = some (.slice e)) (hs : pev P (sizeOf e) = some m) (hij : i ≤ len) (hc : len ≤ cap)
  (eA : (if cap = i then A else A.map (·.add (i * m))) = A') (el : len - i = l') (ec : cap - i = c') :
  pev P (execOp (ev n S) ⟨d, .slice t x (some lo) none none, ty, ps, af, none⟩) = some (.value (.slice A' l' c')) := by
 subst eA el ec
 exact pv_sliceLo i hx hl ei ht hs hij hc
theorem slA {b i cap : Nat} (h : i < cap) : (if cap = i then some (⟨b, 0, none⟩ : Addr) else (some (⟨b, 0, none⟩ : Addr)).map (·.add (i * 1))) = some ⟨b, i, none⟩ := by
 rw [if_neg (by omega), Option.map_some, add_none, Nat.mul_one, Nat.zero_add]
theorem pv_assert {x : Operand} {xt t : TypeId} {v : Value} {u : TypeDesc} (hx : ev n S x = .iface t v) (hu : pev P (underlying t) = some u) (hni : (match u with | .interface _ => false | _ => true) = true) :
  pev P (execOp (ev n S) ⟨d, .typeAssert x xt t true, ty, ps, af, none⟩) = some (.value (.tuple #[v, .bool true])) := by
 simp only [execOp, hx]
 refine (wU (a := .tuple #[v, .bool true]) ?_).trans rfl
 unfold Instr.typeAssert
 refine (wG hu).trans ?_
 cases u <;> first | (cases hni; done) | (simp only [if_true]; rfl)
end
section
variable {P : Program} {m n : Nat} {K' : Post} {S : Sl} {D : Df} {L : Pv} {h : AH}
def bodyOps (f : Func) : Array Oper := match f.body with | some (.seq (.region _ o _) _) => o | _ => #[]
def bodyRest (f : Func) : Code := match f.body with | some (.seq _ c) => c | _ => .skip
theorem clo_run {ops : Array Oper} {o1 : Oper} {c2 : Code} (h1 : ops[1]? = some o1) (hz : ops[2]? = none) (hc : calmB [o1] = true)
  (w : wpL P m ops [o1] (fun S' L' h' => xp P m none c2 K' S' [] L' h') (fun v S' L' h' => K' (.panic v) S' [] L' h') S L h) : Goes P m none ([.inRegion ops [1]] ++ [.code c2]) K' S [] L h := by
 refine goes_append trivial ?_
 refine goes_list [o1] (calm_of _ hc) 1 S L h (fun j => ?_) w
 match j with
 | 0 => exact h1.symm
 | j + 1 =>
  have : ops.size ≤ 2 := by simpa using hz
  rw [show 1 + (j + 1) = j + 2 from by omega, Array.getElem?_eq_none (by omega)]
  rfl
theorem doneK_list {fn : Func} {K : Value → AH → Prop} {rs : List ResultVar} {vs : List Value} (hr : fn.results = rs.toArray) (hv : ResL P n S L h rs vs) (k : Valid h L → K (tupV vs) (wl h L)) : doneK P n fn K S L h := fun V => res_core hr hv V (k V)
end
end Go.HL
namespace Go.Proofs.Ythphpbdmbmiaiaa
open Go Go.HL Go.Proofs Go.Wx Go.Rd
section
variable [Lvl]
set_option maxRecDepth 100000
theorem neself (x : Int) : (!(x == x)) = false := by simp
theorem nanC_ok (x : Int) (h : AH) : FnT Try.prog 140 #[.int .i64 x] h (fun v _ => v = .bool false) := by
 refine wK Try.func140 rfl Try.ntmps140 rfl ?_
 refine qD ?_
 refine qB rfl ?_
 refine qA (qE (v := .bool _) rfl) ?_
 refine qD ?_
 refine qB rfl ?_
 refine qA (qC (v := .int .i64 _) rfl) ?_
 refine qA (qC (v := .int .i64 _) rfl) ?_
 refine qA (qN (v := .bool _) rfl) ?_
 refine qA (qE (v := .bool _) rfl) ?_
 refine qX ?_
 refine qO (vs := [_]) Try.results140 ⟨qL rfl rfl, trivial⟩ fun V => ?_
 exact ⟨(wA V), congrArg Value.bool (neself x)⟩
theorem nanS_ok (x : Int) (h : AH) : FnT Try.prog 136 #[.int .i64 x] h (fun v _ => v = .bool false) := by
 refine wK Try.func136 rfl Try.ntmps136 rfl ?_
 refine qD ?_
 refine qB rfl ?_
 refine qA (qE (v := .bool _) rfl) ?_
 refine qD ?_
 refine qB rfl ?_
 refine qA (qC (v := .int .i64 _) rfl) ?_
 refine qA (qC (v := .int .i64 _) rfl) ?_
 refine qA (qN (v := .bool _) rfl) ?_
 refine qA (qE (v := .bool _) rfl) ?_
 refine qX ?_
 refine qO (vs := [_]) Try.results136 ⟨qL rfl rfl, trivial⟩ fun V => ?_
 exact ⟨(wA V), congrArg Value.bool (neself x)⟩
theorem less_ok (x y : Int) (h : AH) : FnT Try.prog 135 #[.int .i64 x, .int .i64 y] h (fun v _ => v = .bool (decide (x < y))) := by
 refine wK Try.func135 rfl Try.ntmps135 rfl ?_
 refine qD ?_
 refine qB rfl ?_
 refine qA (qE (v := .bool _) rfl) ?_
 refine qD ?_
 refine qB rfl ?_
 refine qA (qC (v := .int .i64 _) rfl) ?_
 refine wI (caps := []) (vs := [.int .i64 _]) rfl rfl rfl (nanC_ok x h) ?_
 rintro _ h1 E1 rfl
 refine qA (qC (v := .bool _) rfl) ?_
 refine qK rfl rfl ?_
 refine qK rfl rfl ?_
 refine qK rfl rfl ?_
 refine qA (wZ rfl rfl (v := .bool _) rfl) ?_
 refine qA (qC (v := .bool _) rfl) ?_
 refine qI rfl rfl ?_
 refine qA (qC (v := .int .i64 _) rfl) ?_
 refine qI rfl rfl ?_
 refine qA (qC (v := .int .i64 _) rfl) ?_
 refine qI rfl rfl ?_
 refine qA (qN (v := .bool _) rfl) ?_
 refine qA (wZ rfl rfl (v := .bool _) rfl) ?_
 refine qA (qE (v := .bool _) rfl) ?_
 refine qX ?_
 refine qO (vs := [_]) Try.results135 ⟨qL rfl rfl, trivial⟩ fun V => ?_
 exact ⟨(zA E1 (wA V)), rfl⟩
theorem pw_le {l : List Int} (p : l.Pairwise (· < ·)) {i j : Nat} (hi : i < l.length) (hj : j < l.length) (hij : i ≤ j) : l[i] ≤ l[j] := by
 rcases Nat.lt_or_eq_of_le hij with h | rfl
 ·exact Int.le_of_lt (List.pairwise_iff_getElem.1 p i j hi hj h)
 ·exact Int.le_refl _
def AtP (l : List Int) (z : Int) (i : Nat) : Prop := i ≤ l.length ∧ (∀ k (hk : k < l.length), k < i → l[k] < z) ∧ ∀ k (hk : k < l.length), i ≤ k → z ≤ l[k]
theorem AtP.mem {l : List Int} {z : Int} {i : Nat} (a : AtP l z i) (hi : i < l.length) : (z ∈ l ↔ l[i] = z) ∨ ¬ l.Pairwise (· < ·) := by
 by_cases p : l.Pairwise (· < ·)
 ·left
  constructor
  ·intro hm
   obtain ⟨k, hk, rfl⟩ := List.getElem_of_mem hm
   by_cases hki : k < i
   ·exact absurd (a.2.1 k hk hki) (Int.lt_irrefl _)
   ·exact Int.le_antisymm (pw_le p hi hk (by omega)) (a.2.2 i hi (Nat.le_refl _))
  ·intro e; rw [← e]; exact List.getElem_mem hi
 ·right; exact p
theorem search_ok (l : List Int) (z : Int) (A : Option Addr) (c : Nat) (h : AH) (R : Row h 1 intC A l) (hl : l.length < 2 ^ 20) (p : l.Pairwise (· < ·)) :
  FnT Try.prog 130 #[.slice A l.length c, .int .i64 z] h (fun v _ => ∃ i : Nat, v = .tuple #[.int .i64 (i : Int), .bool (decide (z ∈ l))] ∧ AtP l z i) := by
 refine wK Try.func130 rfl Try.ntmps130 rfl ?_
 refine qD ?_
 refine qB rfl ?_
 refine qA (qE (v := .int .i64 _) rfl) ?_
 refine qA (qE (v := .bool _) rfl) ?_
 refine qD ?_
 refine qB rfl ?_
 refine qA (qC (v := .slice _ _ _) rfl) ?_
 refine qA (wQ rfl rfl) ?_
 refine qA (qE (v := .int .i64 _) rfl) ?_
 refine qD ?_
 refine qB rfl ?_
 refine qA (qC (v := .int .i64 _) rfl) ?_
 refine qA (qE (v := .int .i64 _) rfl) ?_
 refine qA (qE (v := .int .i64 _) rfl) ?_
 refine qD ?_
 refine qQ ?_
 refine xp_loopB [7, 8, 9, 13, 14, 15, 16, 17, 18, 19, 20, 21, 22, 23, 24, 25, 26, 27, 28, 29, 30] 0 (α := Nat × Nat) (fun ⟨i, j⟩ => [(7, .int .i64 i), (8, .int .i64 j)]) (fun ⟨i, j⟩ => _) (fun ⟨i, j⟩ h_i => i ≤ j ∧ j ≤ l.length ∧ (∀ k (hk : k < l.length), k < i → l[k] < z) ∧ ∀ k (hk : k < l.length), j ≤ k → z ≤ l[k]) (fun ⟨i, j⟩ => j - i) ((0, l.length)) ⟨rfl, rfl, trivial⟩ (rfl) (⟨Nat.zero_le _, Nat.le_refl _, fun _ _ h => absurd h (Nat.not_lt_zero _), fun _ h1 h2 => absurd h1 (by omega)⟩) ?_
 rintro ⟨i, j⟩ T1 h_i E_i J_i
 refine qR [] rfl ?_
 obtain ⟨K1, K2, K3, K4⟩ := J_i
 refine qD ?_
 refine qD ?_
 refine qB rfl ?_
 refine qA (qC (v := .int .i64 _) rfl) ?_
 refine qA (qC (v := .int .i64 _) rfl) ?_
 refine qA (qN (v := .bool _) rfl) ?_
 refine qT rfl (fun hk => ?_) (fun hk => ?_)
 ·skip
  have hij : i < j := ltI hk
  refine qU ?_
  refine qQ ?_
  refine qD ?_
  refine qB rfl ?_
  refine qA (qC (v := .int .i64 _) rfl) ?_
  refine qA (qC (v := .int .i64 _) rfl) ?_
  refine qA (qS rfl (by omega)) ?_
  refine qA (pv_conv (k := .u64) (z' := ((i + j : Nat) : Int)) rfl rfl rfl (by rw [← Int.natCast_add]; exact u64_nat _ (by omega))) ?_
  refine op_shr (i + j) 1 rfl rfl rfl rfl (by omega) ?_
  refine qA (pv_conv (k := .i64) (z' := (((i + j) / 2 : Nat) : Int)) rfl rfl rfl (by exact IntWalk.i64_in _ (by omega))) ?_
  have hm1 : (i + j) / 2 < j := by omega
  have hm0 : i ≤ (i + j) / 2 := by omega
  obtain ⟨m, hm⟩ : ∃ m, m = (i + j) / 2 := ⟨_, rfl⟩
  rw [← hm] at hm1 hm0 ⊢
  have hml : m < l.length := by omega
  obtain ⟨g, off, hA, hc⟩ := (R.ext E_i).at (by omega) hml
  refine qA (qE (v := .int .i64 _) rfl) ?_
  refine qD ?_
  refine qB rfl ?_
  refine qA (qC (v := .slice _ _ _) rfl) ?_
  refine qA (qC (v := .int .i64 _) rfl) ?_
  refine qA (wL rfl hA rfl rfl rfl (by omega) (by omega)) ?_
  refine wM (v := .int .i64 _) rfl rfl ((hc) 0 _ rfl) ?_
  refine qA (qC (v := .int .i64 _) rfl) ?_
  refine wI (caps := []) (vs := [.int .i64 _, .int .i64 _]) rfl rfl rfl (less_ok l[m] z h_i) ?_
  rintro _ h1 E1 rfl
  refine qT rfl (fun he => ?_) (fun he => ?_)
  ·skip
   have he' : l[m] < z := of_decide_eq_true he
   refine qB rfl ?_
   refine qA (qC (v := .int .i64 _) rfl) ?_
   refine qA (qS rfl (by omega)) ?_
   refine qA (qE (v := .int .i64 _) rfl) ?_
   refine ⟨(m + 1, j), ⟨rfl, rfl, trivial⟩, rfl, rfl, (zA E_i E1), fun h3 E3 => ⟨hm1, K2, fun k hk h => Int.lt_of_le_of_lt (pw_le p hk hml (by omega)) he', K4⟩, by first | omega | (dsimp only; omega), ?_⟩
   repeat (first | exact qW _ _ _ | refine wB (by decide) ?_ | refine qV rfl ?_ | refine wD rfl ?_)
  ·skip
   have he' : ¬ l[m] < z := of_decide_eq_false he
   refine qB rfl ?_
   refine qA (qC (v := .int .i64 _) rfl) ?_
   refine qA (qE (v := .int .i64 _) rfl) ?_
   refine ⟨(i, m), ⟨rfl, rfl, trivial⟩, rfl, rfl, (zA E_i E1), fun h3 E3 => ⟨hm0, by omega, K3, fun k hk h => Int.le_trans (by omega) (pw_le p hml hk h)⟩, by first | omega | (dsimp only; omega), ?_⟩
   repeat (first | exact qW _ _ _ | refine wB (by decide) ?_ | refine qV rfl ?_ | refine wD rfl ?_)
 ·skip
  have hke : i = j := by have := geI hk; omega
  subst hke
  have AT : AtP l z i := ⟨K2, K3, K4⟩
  by_cases hil : i < l.length
  ·have hg : decide ((i : Int) < (l.length : Int)) = true := decide_eq_true (by omega)
   have hmem := (AT.mem hil).resolve_right (fun y => y p)
   obtain ⟨g, off, hA, hc⟩ := (R.ext E_i).at (by omega) hil
   refine wT ?_
   refine qD ?_
   refine qB rfl ?_
   refine qA (qC (v := .int .i64 _) rfl) ?_
   refine qA (qC (v := .int .i64 _) rfl) ?_
   refine qA (qC (v := .int .i64 _) rfl) ?_
   refine qA (qN (v := .bool _) rfl) ?_
   refine qA (qC (v := .bool _) rfl) ?_
   refine qI rfl hg ?_
   refine qA (qC (v := .slice _ _ _) rfl) ?_
   refine qI rfl hg ?_
   refine qA (qC (v := .int .i64 _) rfl) ?_
   refine qI rfl hg ?_
   refine qA (wL rfl hA rfl rfl rfl (by omega) (by omega)) ?_
   refine qI rfl hg ?_
   refine wM (v := .int .i64 _) rfl rfl ((hc) 0 _ rfl) ?_
   refine qI rfl hg ?_
   refine qA (qC (v := .int .i64 _) rfl) ?_
   refine qI rfl hg ?_
   refine qA (qN (v := .bool _) rfl) ?_
   refine qI rfl hg ?_
   refine qA (qC (v := .bool _) rfl) ?_
   by_cases hz : l[i] = z
   ·have hg2 : (l[i] == z) = true := by simpa using hz
    refine qK rfl hg2 ?_
    refine qK rfl hg2 ?_
    refine qK rfl hg2 ?_
    refine qK rfl hg2 ?_
    refine qK rfl hg2 ?_
    refine qK rfl hg2 ?_
    refine guard_un rfl ?_
    refine guard_un rfl ?_
    refine qK rfl hg2 ?_
    refine qI rfl hg ?_
    refine qA (wO rfl hg2 (v := .bool _) rfl) ?_
    refine qA (wO rfl hg (v := .bool _) rfl) ?_
    refine qA (qE (v := .int .i64 _) rfl) ?_
    refine qA (qE (v := .bool _) rfl) ?_
    refine qX ?_
    refine qO (vs := [_, _]) Try.results130 ⟨qL rfl rfl, qL rfl rfl, trivial⟩ fun V => ?_
    exact ⟨(zA E_i (wA V)), i, (congrArg (fun b => Value.tuple #[.int .i64 i, .bool b]) (decide_eq_true (hmem.2 hz)).symm), AT⟩
   ·have hg2 : (l[i] == z) = false := by simpa using hz
    obtain ⟨g2, off2, hA2, hc2⟩ := (R.ext E_i).at (by omega) hil
    refine qI rfl hg2 ?_
    refine qA (qC (v := .slice _ _ _) rfl) ?_
    refine qI rfl hg2 ?_
    refine qA (qC (v := .int .i64 _) rfl) ?_
    refine qI rfl hg2 ?_
    refine qA (wL rfl hA2 rfl rfl rfl (by omega) (by omega)) ?_
    refine qI rfl hg2 ?_
    refine wM (v := .int .i64 _) rfl rfl ((hc2) 0 _ rfl) ?_
    refine qI rfl hg2 ?_
    refine wI (caps := []) (vs := [.int .i64 _]) rfl rfl rfl (nanS_ok l[i] h_i) ?_
    rintro _ h1 E1 rfl
    refine qI rfl hg2 ?_
    refine qA (qC (v := .bool _) rfl) ?_
    refine qK rfl rfl ?_
    refine qK rfl rfl ?_
    refine qI rfl hg2 ?_
    refine qA (wZ rfl rfl (v := .bool _) rfl) ?_
    refine qI rfl hg ?_
    refine qA (wZ rfl hg2 (v := .bool _) rfl) ?_
    refine qA (wO rfl hg (v := .bool _) rfl) ?_
    refine qA (qE (v := .int .i64 _) rfl) ?_
    refine qA (qE (v := .bool _) rfl) ?_
    refine qX ?_
    refine qO (vs := [_, _]) Try.results130 ⟨qL rfl rfl, qL rfl rfl, trivial⟩ fun V => ?_
    exact ⟨(zA (zA E_i E1) (wA V)), i, (congrArg (fun b => Value.tuple #[.int .i64 i, .bool b]) (decide_eq_false (fun y => hz (hmem.1 y))).symm), AT⟩
  ·have hg : decide ((i : Int) < (l.length : Int)) = false := decide_eq_false (by omega)
   refine wT ?_
   refine qD ?_
   refine qB rfl ?_
   refine qA (qC (v := .int .i64 _) rfl) ?_
   refine qA (qC (v := .int .i64 _) rfl) ?_
   refine qA (qC (v := .int .i64 _) rfl) ?_
   refine qA (qN (v := .bool _) rfl) ?_
   refine qA (qC (v := .bool _) rfl) ?_
   refine qK rfl hg ?_
   refine qK rfl hg ?_
   refine qK rfl hg ?_
   refine qK rfl hg ?_
   refine qK rfl hg ?_
   refine qK rfl hg ?_
   refine qK rfl hg ?_
   refine guard_un rfl ?_
   refine guard_un rfl ?_
   refine guard_un rfl ?_
   refine guard_un rfl ?_
   refine guard_un rfl ?_
   refine guard_un rfl ?_
   refine guard_un rfl ?_
   refine guard_un rfl ?_
   refine guard_un rfl ?_
   refine qK rfl hg ?_
   refine qA (wZ rfl hg (v := .bool _) rfl) ?_
   refine qA (qE (v := .int .i64 _) rfl) ?_
   refine qA (qE (v := .bool _) rfl) ?_
   refine qX ?_
   refine qO (vs := [_, _]) Try.results130 ⟨qL rfl rfl, qL rfl rfl, trivial⟩ fun V => ?_
   have hlen : i = l.length := by have := AT.1; omega
   have hno : ¬ z ∈ l := fun y => by
    obtain ⟨k, hk, e⟩ := List.getElem_of_mem y
    have := AT.2.1 k hk (by omega)
    omega
   exact ⟨(zA E_i (wA V)), i, (congrArg (fun b => Value.tuple #[.int .i64 i, .bool b]) (decide_eq_false hno).symm), AT⟩
end
end Go.Proofs.Ythphpbdmbmiaiaa
namespace Go.HL
open Go
variable [Lvl]
theorem wrL_mid : ∀ (c pre j : List Value), c.length ≤ j.length → wrL (pre ++ j) pre.length c = pre ++ c ++ j.drop c.length
 | [], pre, j, _ => by simp [wrL]
 | v :: c, pre, [], h => absurd h (by simp)
 | v :: c, pre, x :: j, h => by
  have e : (pre ++ x :: j).set pre.length v = (pre ++ [v]) ++ j := by simp
  have ih := wrL_mid c (pre ++ [v]) j (by simpa using h)
  rw [List.length_append, List.length_singleton] at ih
  rw [wrL, e, ih]
  simp
variable {P : Program} {n : Nat} {ops : Array Oper} {os : List Oper} {K : Sl → Pv → AH → Prop} {E : Value → Sl → Pv → AH → Prop} {S : Sl} {L : Pv} {h : AH} {d : Option Tmp} {ty : TypeId} {ps : String} {af : Array Edge}
end Go.HL
namespace Go.Wx
open Go Go.HL
variable [Lvl]
theorem rdAt {h : AH} {L : Pv} {i b o : Nat} (pre xs post : List Value) {cs : List Value} {e : TypeId} {f : Nat × Nat} (V : Valid h L) (hi : L[i]? = some (some (b, .cells cs.toArray e f))) (ho : o = pre.length) (hc : cs = pre ++ xs ++ post) : Rd (wl h L) (some ⟨b, o, none⟩) xs := by
 subst ho hc
 intro _
 refine ⟨b, _, rfl, fun j u hu => ?_⟩
 simp only [cellA, wX V hi]
 have hj : j < xs.length := (List.getElem?_eq_some_iff.1 hu).1
 have : (pre ++ xs ++ post)[pre.length + j]? = some u := by
  rw [List.append_assoc, List.getElem?_append_right (by omega), Nat.add_sub_cancel_left, List.getElem?_append_left hj]
  exact hu
 simpa using this
theorem rdIf {h : AH} {L : Pv} {i b o cap : Nat} (pre xs post : List Value) {cs : List Value} {e : TypeId} {f : Nat × Nat} (V : Valid h L) (hi : L[i]? = some (some (b, .cells cs.toArray e f))) (ho : o = pre.length) (hc : cs = pre ++ xs ++ post) (hx : xs ≠ [] → o < cap) : Rd (wl h L) (if cap = o then some (⟨b, 0, none⟩ : Addr) else (some (⟨b, 0, none⟩ : Addr)).map (·.add (o * 1))) xs := by
 by_cases hn : xs = []
 ·subst hn; exact Rd.nil _ _
 ·have := hx hn
  rw [if_neg (by omega), Option.map_some, add_none, Nat.mul_one, Nat.zero_add]
  exact rdAt pre xs post V hi ho hc
theorem wrL_len : ∀ (vs c : List Value) (o : Nat), (wrL c o vs).length = c.length
 | [], _, _ => rfl
 | v :: vs, c, o => by
  show (wrL (c.set o v) (o + 1) vs).length = _
  rw [wrL_len vs, List.length_set]
theorem valid_ne {h : AH} {a b : Nat} {o o' : Obj} (V : Valid h [some (a, o), some (b, o')]) : a ≠ b := by
 have := V.nd
 simp [cl] at this
 exact this
theorem shed_row {α : Type} {m : Nat} {enc : α → List Value} {H h9 : AH} {l : List α} {v : Value} (e : H = wl h9 []) (r : SlR H m enc l v) : SlR h9 m enc l v := by
 rw [wl_nil] at e; exact e ▸ r
theorem gap_len (A B J : List Value) (hB : B ≠ []) (hJ : J ≠ []) : ∃ b0 X, wrL (A ++ B ++ J) (A.length + 1) B = A ++ [b0] ++ B ++ X ∧ X.length + 1 = J.length ∧ ∀ z, wrL (A ++ [b0] ++ B ++ X) A.length [z] = A ++ [z] ++ B ++ X := by
 cases B with
 | nil => exact absurd rfl hB
 | cons b0 B =>
  have hJ' : 0 < J.length := List.length_pos_iff.2 hJ
  refine ⟨b0, (B ++ J).drop (b0 :: B).length, ?_, ?_, fun z => ?_⟩
  ·have := Go.HL.wrL_mid (b0 :: B) (A ++ [b0]) (B ++ J) (by simp; omega)
   rw [List.length_append, List.length_singleton] at this
   rw [← this]
   simp
  ·simp; omega
  ·have := Go.HL.wrL_mid [z] A ([b0] ++ (b0 :: B) ++ (B ++ J).drop (b0 :: B).length) (by simp)
   simp only [List.append_assoc] at this ⊢
   rw [this]
   simp
theorem gap_new (A B J : List Value) (z : Value) (hJ : B.length + 1 ≤ J.length) : ∃ X, wrL (wrL (A ++ J) A.length [z]) (A.length + 1) B = A ++ [z] ++ B ++ X ∧ X.length + B.length + 1 = J.length := by
 have h1 := Go.HL.wrL_mid [z] A J (by simp; omega)
 refine ⟨(J.drop 1).drop B.length, ?_, by simp; omega⟩
 rw [h1]
 have h2 := Go.HL.wrL_mid B (A ++ [z]) (J.drop 1) (by simp; omega)
 rw [List.length_append, List.length_singleton] at h2
 exact h2
theorem gap_shut (A B J : List Value) (z0 z : Value) : ∃ X, wrL (A ++ [z0] ++ B ++ J) A.length B = A ++ B ++ X ∧ X.length = J.length + 1 ∧ ∃ Y, wrL (A ++ B ++ X) (A.length + B.length) [z] = A ++ B ++ Y ∧ Y.length = J.length + 1 := by
 refine ⟨([z0] ++ B ++ J).drop B.length, ?_, by simp; omega, [z] ++ (([z0] ++ B ++ J).drop B.length).drop 1, ?_, by first | (simp; done) | (simp; omega)⟩
 ·have := Go.HL.wrL_mid B A ([z0] ++ B ++ J) (by simp; omega)
  rw [← this]; simp
 ·have := Go.HL.wrL_mid [z] (A ++ B) (([z0] ++ B ++ J).drop B.length) (by simp; omega)
  rw [List.length_append] at this
  rw [this]; simp
end Go.Wx
namespace Go.Proofs.Ythphpbdmbmiaiaa
open Go Go.HL Go.Proofs Go.Wx Go.Rd
section
variable [Lvl]
set_option maxRecDepth 100000
theorem flatI (l : List Int) : (l.flatMap intC).length = l.length := by rw [wP (m := 1) (fun _ _ => rfl), Nat.mul_one]
theorem insE_ok (l : List Int) (z : Int) (a : Acc) (b : Nat) (h : AH) (ha : AccR 3 1 (l.flatMap intC) a) (hl : l.length < 2 ^ 20) :
  FnM Try.prog (.func (.func 131) #[] ([] : List Value).toArray) [.slice a.A a.n a.c, .int .i64 (l.length : Int), .slice (some ⟨b, 0, none⟩) 1 1] h [a.p, some (b, .cells [Value.int .i64 z].toArray 3 (0, 0))] (fun v h' M' => M' = [] ∧ SlR h' 1 intC (l ++ [z]) v) := by
 have hn : a.n = l.length := by have := ha.len; rw [flatI] at this; omega
 have hc : a.n ≤ a.c := by
  rcases ha with ⟨_, _, A, ev⟩ | ⟨b, len, cap, junk, hl1, ev, _, h4⟩
  ·injection ev with _ h2 h3; omega
  ·injection ev with _ h2 h3; simp only [List.length_append] at h4; omega
 refine fnM_body rfl rfl Try.func131 rfl Try.ntmps131 rfl ?_
 refine qD ?_
 refine qB rfl ?_
 refine qA (qE (v := .slice _ _ _) rfl) ?_
 refine qD ?_
 refine qB rfl ?_
 refine qA (qC (v := .slice _ _ _) rfl) ?_
 refine qA (qC (v := .int .i64 _) rfl) ?_
 refine qA (pv_sliceLo l.length rfl rfl rfl rfl rfl (by omega) (by omega)) ?_
 refine qD ?_
 refine qB rfl ?_
 refine qA (qC (v := .slice _ _ _) rfl) ?_
 refine qA (wQ rfl rfl) ?_
 refine qA (qE (v := .int .i64 _) rfl) ?_
 refine qD ?_
 refine qD ?_
 refine qB rfl ?_
 refine qA (qC (v := .int .i64 _) rfl) ?_
 refine qA (qN (v := .bool _) rfl) ?_
 refine xp_condF rfl (rfl) ?_
 refine qU ?_
 refine qD ?_
 refine qB rfl ?_
 refine qA (qC (v := .slice _ _ _) rfl) ?_
 refine qA (wQ rfl rfl) ?_
 refine qA (qE (v := .int .i64 _) rfl) ?_
 refine qD ?_
 refine qD ?_
 refine qB rfl ?_
 refine qA (qC (v := .int .i64 _) rfl) ?_
 refine qA (qC (v := .int .i64 _) rfl) ?_
 refine qA (qN (v := .bool _) rfl) ?_
 refine xp_condT rfl ((by rw [natBeq]; exact decide_eq_true (by omega))) ?_
 refine qD ?_
 refine qB rfl ?_
 refine qA (qC (v := .slice _ _ _) rfl) ?_
 refine qA (qC (v := .slice _ _ _) rfl) ?_
 refine wY 0 ha rfl rfl rfl (fun V => rdP V (i := 1) rfl) rfl rfl rfl rfl rfl rfl rfl rfl rfl (by omega) rfl ((by rw [flatI]; simp; omega)) fun a2 h1a E1a ha2 => ?_
 refine qH [_, _] rfl ?_
 refine qA (qE (v := .slice _ _ _) rfl) ?_
 refine qX ?_
 refine qO (vs := [_]) Try.results131 ⟨qL rfl rfl, trivial⟩ fun V => ?_
 obtain ⟨h9, E9, e9, V9⟩ := wl_shed [_, _] [] V
 exact ⟨h9, [], e9, V9, zA E1a E9, rfl, shed_row e9 (AccP.row (m := 1) (enc := intC) (i := 0) (l := l ++ [z]) (by rw [List.flatMap_append]; exact ha2) (by omega) (fun _ _ => rfl) V rfl)⟩
theorem insM_ok (p q : List Int) (z : Int) (b0 b n cap : Nat) (J : List Value) (h : AH) (hn : n = p.length + q.length) (hc : n + J.length = cap) (hq : q ≠ []) (hl : n < 2 ^ 20) :
  FnM Try.prog (.func (.func 131) #[] ([] : List Value).toArray) [.slice (some ⟨b0, 0, none⟩) n cap, .int .i64 (p.length : Int), .slice (some ⟨b, 0, none⟩) 1 1] h [some (b0, .cells (p.flatMap intC ++ q.flatMap intC ++ J).toArray 3 (0, 0)), some (b, .cells [Value.int .i64 z].toArray 3 (0, 0))] (fun v h' M' => M' = [] ∧ SlR h' 1 intC (p ++ z :: q) v) := by
 have hq0 : 0 < q.length := List.length_pos_iff.2 hq
 have hA := flatI p
 have hB := flatI q
 have hqB : q.flatMap intC ≠ [] := List.length_pos_iff.1 (by omega)
 have fin : ∀ (X : List Value) (bb cc : Nat), n + 1 + X.length = cc → AccP 3 1 ((p ++ z :: q).flatMap intC) (some (bb, .cells (p.flatMap intC ++ [Value.int .i64 z] ++ q.flatMap intC ++ X).toArray 3 (0, 0))) (.slice (some ⟨bb, 0, none⟩) (n + 1) cc) := by
  intro X bb cc hX
  have e : (p ++ z :: q).flatMap intC = p.flatMap intC ++ [Value.int .i64 z] ++ q.flatMap intC := by rw [List.flatMap_append, List.flatMap_cons, List.append_assoc]; rfl
  refine .inr ⟨bb, n + 1, cc, X, ?_, rfl, by rw [e], ?_⟩
  ·rw [flatI]; simp; omega
  ·rw [List.length_append, flatI]; simp; omega
 refine fnM_body rfl rfl Try.func131 rfl Try.ntmps131 rfl ?_
 refine qD ?_
 refine qB rfl ?_
 refine qA (qE (v := .slice _ _ _) rfl) ?_
 refine qD ?_
 refine qB rfl ?_
 refine qA (qC (v := .slice _ _ _) rfl) ?_
 refine qA (qC (v := .int .i64 _) rfl) ?_
 refine qA (pv_sliceLo p.length rfl rfl rfl rfl rfl (by omega) (by omega)) ?_
 refine qD ?_
 refine qB rfl ?_
 refine qA (qC (v := .slice _ _ _) rfl) ?_
 refine qA (wQ rfl rfl) ?_
 refine qA (qE (v := .int .i64 _) rfl) ?_
 refine qD ?_
 refine qD ?_
 refine qB rfl ?_
 refine qA (qC (v := .int .i64 _) rfl) ?_
 refine qA (qN (v := .bool _) rfl) ?_
 refine xp_condF rfl (rfl) ?_
 refine qU ?_
 refine qD ?_
 refine qB rfl ?_
 refine qA (qC (v := .slice _ _ _) rfl) ?_
 refine qA (wQ rfl rfl) ?_
 refine qA (qE (v := .int .i64 _) rfl) ?_
 refine qD ?_
 refine qD ?_
 refine qB rfl ?_
 refine qA (qC (v := .int .i64 _) rfl) ?_
 refine qA (qC (v := .int .i64 _) rfl) ?_
 refine qA (qN (v := .bool _) rfl) ?_
 refine xp_condF rfl ((by rw [natBeq]; exact decide_eq_false (by omega))) ?_
 refine qU ?_
 refine qD ?_
 refine qD ?_
 refine qB rfl ?_
 refine qA (qC (v := .int .i64 _) rfl) ?_
 refine qA (qC (v := .int .i64 _) rfl) ?_
 refine qA (qS rfl (by omega)) ?_
 refine qA (qC (v := .slice _ _ _) rfl) ?_
 refine qA (pv_cap rfl rfl) ?_
 refine qA (qN (v := .bool _) rfl) ?_
 refine qT rfl (fun hroom => ?_) (fun hroom => ?_)
 ·skip
  have hr : cap < n + 1 := by have := of_decide_eq_true hroom; omega
  refine qD ?_
  refine qB rfl ?_
  refine qA (qC (v := .slice _ _ _) rfl) ?_
  refine qA (qC (v := .int .i64 _) rfl) ?_
  refine qA (pv_sliceHi p.length rfl rfl rfl rfl rfl (by omega)) ?_
  refine qA (qC (v := .int .i64 _) rfl) ?_
  refine qA (qC (v := .int .i64 _) rfl) ?_
  refine qA (qS rfl (by omega)) ?_
  refine qA (qC (v := .int .i64 _) rfl) ?_
  refine qA (qS rfl (by omega)) ?_
  refine op_appendMake (m := 1) (k := n + 1 - p.length) (cs := p.flatMap intC) rfl rfl (by omega) (fun V => rdAt [] _ (q.flatMap intC ++ J) (i := 0) V rfl rfl (by simp)) (by rw [hA]; exact (Nat.mul_one _).symm) rfl rfl rfl rfl rfl rfl rfl (by decide) rfl (by omega) (by omega) (by omega) fun b9 cap9 j9 h9 hj9 hcap9 => ?_
  refine qH [_, _, _] rfl ?_
  obtain ⟨X, hX, hXl⟩ := gap_new (p.flatMap intC) (q.flatMap intC) j9 (.int .i64 z) (by omega)
  rw [hA] at hX
  have hsum : p.length + (n + 1 - p.length) = n + 1 := by omega
  refine qA (qE (v := .slice _ _ _) rfl) ?_
  refine qD ?_
  refine qB rfl ?_
  refine qA (qC (v := .slice _ _ _) rfl) ?_
  refine qA (qC (v := .int .i64 _) rfl) ?_
  refine qA (pv_sliceLoS p.length (A' := some ⟨b9, p.length, none⟩) (l' := n + 1 - p.length) (c' := cap9 - p.length) rfl rfl rfl rfl rfl (by omega) (by omega) (slA (by omega)) (by omega) rfl) ?_
  refine qA (qC (v := .slice _ _ _) rfl) ?_
  refine op_copyP 2 (cs := p.flatMap intC ++ j9) (xs := [Value.int .i64 z]) (k := 1) rfl rfl rfl (by show min _ _ = _; omega) (fun V => rdP V (i := 1) rfl) rfl rfl rfl rfl (by simp only [List.length_append, List.length_cons, List.length_nil]; omega) rfl ?_
  refine qH [_, _, _] rfl ?_
  refine qD ?_
  refine xp_dw [] rfl rfl rfl ?_
  refine qG (i := 0) rfl (by decide +kernel) (qC (v := .slice _ _ _) rfl) ?_
  refine qG (i := 1) rfl (by decide +kernel) (qC (v := .int .i64 _) rfl) ?_
  refine qG (i := 2) rfl (by decide +kernel) (qC (v := .int .i64 _) rfl) ?_
  refine qG (i := 3) rfl (by decide +kernel) (qS rfl (by omega)) ?_
  refine qG (i := 4) rfl (by decide +kernel) (pv_sliceLoS (p.length + 1) (A' := some ⟨b9, p.length + 1, none⟩) (l' := n - p.length) (c' := cap9 - (p.length + 1)) rfl rfl (by omega) rfl rfl (by omega) (by omega) (slA (by omega)) (by omega) rfl) ?_
  refine qG (i := 5) rfl (by decide +kernel) (qC (v := .slice _ _ _) rfl) ?_
  refine qG (i := 6) rfl (by decide +kernel) (qC (v := .int .i64 _) rfl) ?_
  refine qG (i := 7) rfl (by decide +kernel) (pv_sliceLoS p.length (A' := some ⟨b0, p.length, none⟩) (l' := n - p.length) (c' := cap - p.length) rfl rfl rfl rfl rfl (by omega) (by omega) (slA (by omega)) (by omega) rfl) ?_
  refine wV (i := 8) rfl (by decide +kernel) (by decide +kernel) ?_
  refine op_copyP 2 (xs := q.flatMap intC) (k := n - p.length) rfl rfl rfl (by show min _ _ = _; omega) (fun V => rdAt (p.flatMap intC) _ J (i := 0) V rfl hA.symm rfl) (by rw [hB]; show _ = _ * 1; omega) (flat_plain intP2 q) rfl rfl (by rw [wrL_len]; simp only [List.length_append, List.length_cons, List.length_nil]; omega) hX ?_
  refine wJ [_, _, _] rfl ?_
  refine dw_end rfl ?_
  refine qD ?_
  refine qB rfl ?_
  refine qA (qC (v := .slice _ _ _) rfl) ?_
  refine qA (qE (v := .slice _ _ _) rfl) ?_
  refine qX ?_
  refine qO (vs := [_]) Try.results131 ⟨qL rfl rfl, trivial⟩ fun V => ?_
  obtain ⟨h9, E9, e9, V9⟩ := wl_shed [_, _, _] [] V
  exact ⟨h9, [], e9, V9, zA (Ext.refl _) E9, rfl, shed_row e9 (AccP.row (m := 1) (enc := intC) (i := 2) (l := p ++ z :: q) (by show AccP _ _ _ _ (.slice _ (p.length + (n + 1 - p.length)) _); rw [hsum]; exact fin X b9 cap9 (by omega)) (by omega) (fun _ _ => rfl) V rfl)⟩
 ·skip
  have hr : n + 1 ≤ cap := by have := of_decide_eq_false hroom; omega
  obtain ⟨g0, X, hX, hXl, hX2⟩ := gap_len (p.flatMap intC) (q.flatMap intC) J hqB (List.length_pos_iff.1 (by omega))
  rw [hA] at hX hX2
  refine qU ?_
  refine qD ?_
  refine qB rfl ?_
  refine qA (qC (v := .slice _ _ _) rfl) ?_
  refine qA (qC (v := .int .i64 _) rfl) ?_
  refine qA (qC (v := .int .i64 _) rfl) ?_
  refine qA (qS rfl (by omega)) ?_
  refine qA (pv_sliceHi (n + 1) rfl rfl (by omega) rfl rfl (by omega)) ?_
  refine qA (qE (v := .slice _ _ _) rfl) ?_
  refine qD ?_
  refine qD ?_
  refine qB rfl ?_
  refine qA (qC (v := .slice _ _ _) rfl) ?_
  refine qA (qC (v := .slice _ _ _) rfl) ?_
  refine qA (qC (v := .int .i64 _) rfl) ?_
  refine qA (qC (v := .int .i64 _) rfl) ?_
  refine qA (qS rfl (by omega)) ?_
  refine qA (pv_sliceLoS (p.length + 1) (A' := some ⟨b0, p.length + 1, none⟩) (l' := n - p.length) (c' := cap - (p.length + 1)) rfl rfl (by omega) rfl rfl (by omega) (by omega) (slA (by omega)) (by omega) rfl) ?_
  refine op_overlaps (tS := 22) (e := 3) (size := 1) (rs := #[4]) rfl Try.func137 (by kernel_rfl) (by kernel_rfl) (by kernel_rfl) (by kernel_rfl) rfl rfl rfl (fun V => wX V (i := 1) rfl) (fun V => wX V (i := 0) rfl) (fun V => (valid_ne V).symm) ?_
  refine qA (qN (v := .bool _) rfl) ?_
  refine xp_condT rfl (rfl) ?_
  refine qD ?_
  refine xp_dw [] rfl rfl rfl ?_
  refine qG (i := 0) rfl (by decide +kernel) (qC (v := .slice _ _ _) rfl) ?_
  refine qG (i := 1) rfl (by decide +kernel) (qC (v := .int .i64 _) rfl) ?_
  refine qG (i := 2) rfl (by decide +kernel) (qC (v := .int .i64 _) rfl) ?_
  refine qG (i := 3) rfl (by decide +kernel) (qS rfl (by omega)) ?_
  refine qG (i := 4) rfl (by decide +kernel) (pv_sliceLoS (p.length + 1) (A' := some ⟨b0, p.length + 1, none⟩) (l' := n - p.length) (c' := cap - (p.length + 1)) rfl rfl (by omega) rfl rfl (by omega) (by omega) (slA (by omega)) (by omega) rfl) ?_
  refine qG (i := 5) rfl (by decide +kernel) (qC (v := .slice _ _ _) rfl) ?_
  refine qG (i := 6) rfl (by decide +kernel) (qC (v := .int .i64 _) rfl) ?_
  refine qG (i := 7) rfl (by decide +kernel) (pv_sliceLoS p.length (A' := some ⟨b0, p.length, none⟩) (l' := n + 1 - p.length) (c' := cap - p.length) rfl rfl rfl rfl rfl (by omega) (by omega) (slA (by omega)) (by omega) rfl) ?_
  refine wV (i := 8) rfl (by decide +kernel) (by decide +kernel) ?_
  refine op_copyP 0 (cs := p.flatMap intC ++ q.flatMap intC ++ J) (xs := q.flatMap intC) (k := n - p.length) rfl rfl rfl (by show min _ _ = _; omega) (fun V => rdAt (p.flatMap intC) _ J (i := 0) V rfl hA.symm rfl) (by rw [hB]; show _ = _ * 1; omega) (flat_plain intP2 q) rfl rfl (by simp only [List.length_append, List.length_cons, List.length_nil]; omega) hX ?_
  refine wJ [_, _] rfl ?_
  refine dw_end rfl ?_
  refine qD ?_
  refine qB rfl ?_
  refine qA (qC (v := .slice _ _ _) rfl) ?_
  refine qA (qC (v := .int .i64 _) rfl) ?_
  refine qA (pv_sliceLoS p.length (A' := some ⟨b0, p.length, none⟩) (l' := n + 1 - p.length) (c' := cap - p.length) rfl rfl rfl rfl rfl (by omega) (by omega) (slA (by omega)) (by omega) rfl) ?_
  refine qA (qC (v := .slice _ _ _) rfl) ?_
  refine op_copyP 0 (xs := [Value.int .i64 z]) (k := 1) rfl rfl rfl (by show min _ _ = _; omega) (fun V => rdP V (i := 1) rfl) rfl rfl rfl rfl (by simp only [List.length_append, List.length_cons, List.length_nil]; omega) (hX2 (.int .i64 z)) ?_
  refine qH [_, _] rfl ?_
  refine qD ?_
  refine qB rfl ?_
  refine qA (qC (v := .slice _ _ _) rfl) ?_
  refine qA (qE (v := .slice _ _ _) rfl) ?_
  refine qX ?_
  refine qO (vs := [_]) Try.results131 ⟨qL rfl rfl, trivial⟩ fun V => ?_
  obtain ⟨h9, E9, e9, V9⟩ := wl_shed [_, _] [] V
  exact ⟨h9, [], e9, V9, zA (Ext.refl _) E9, rfl, shed_row e9 (AccP.row (m := 1) (enc := intC) (i := 0) (l := p ++ z :: q) (fin X b0 cap (by omega)) (by omega) (fun _ _ => rfl) V rfl)⟩
end
end Go.Proofs.Ythphpbdmbmiaiaa
namespace Go.Proofs.Ythphpbdmbmiaiaa
open Go Go.HL Go.Proofs Go.Wx Go.Rd
section
variable [Lvl]
set_option maxRecDepth 100000
theorem del_ok (p q : List Int) (x : Int) (b0 n cap : Nat) (J : List Value) (h : AH) (hn : n = p.length + 1 + q.length) (hc : n + J.length = cap) (hl : n < 2 ^ 20) :
  FnM Try.prog (.func (.func 132) #[] ([] : List Value).toArray) [.slice (some ⟨b0, 0, none⟩) n cap, .int .i64 (p.length : Int), .int .i64 ((p.length : Int) + 1)] h [some (b0, .cells (p.flatMap intC ++ [Value.int .i64 x] ++ q.flatMap intC ++ J).toArray 3 (0, 0))] (fun v h' M' => M' = [] ∧ SlR h' 1 intC (p ++ q) v) := by
 have hA := flatI p
 have hB := flatI q
 obtain ⟨X, hX, hXl, Y, hY, hYl⟩ := gap_shut (p.flatMap intC) (q.flatMap intC) J (.int .i64 x) (.int .i64 0)
 rw [hA] at hX hY
 rw [hB] at hY
 have fin : AccP 3 1 ((p ++ q).flatMap intC) (some (b0, .cells (p.flatMap intC ++ q.flatMap intC ++ Y).toArray 3 (0, 0))) (.slice (some ⟨b0, 0, none⟩) (p.length + q.length) cap) := by
  have e : (p ++ q).flatMap intC = p.flatMap intC ++ q.flatMap intC := List.flatMap_append
  refine .inr ⟨b0, p.length + q.length, cap, Y, ?_, rfl, by rw [e], ?_⟩
  ·rw [flatI, List.length_append]; omega
  ·rw [List.length_append, flatI, List.length_append]; omega
 refine fnM_body rfl rfl Try.func132 rfl Try.ntmps132 rfl ?_
 refine qD ?_
 refine qB rfl ?_
 refine qA (qE (v := .slice _ _ _) rfl) ?_
 refine qD ?_
 refine qB rfl ?_
 refine qA (qC (v := .slice _ _ _) rfl) ?_
 refine qA (qC (v := .int .i64 _) rfl) ?_
 refine qA (qC (v := .int .i64 _) rfl) ?_
 refine qA (qC (v := .slice _ _ _) rfl) ?_
 refine qA (wQ rfl rfl) ?_
 refine qA (pv_slice3 p.length (p.length + 1) n rfl rfl rfl rfl rfl (by omega) rfl rfl rfl (by omega) (by omega) (by omega)) ?_
 refine qD ?_
 refine qD ?_
 refine qB rfl ?_
 refine qA (qC (v := .int .i64 _) rfl) ?_
 refine qA (qC (v := .int .i64 _) rfl) ?_
 refine qA (qN (v := .bool _) rfl) ?_
 refine xp_condF rfl ((by show decide _ = _; exact decide_eq_false (by omega))) ?_
 refine qU ?_
 refine qD ?_
 refine qB rfl ?_
 refine qA (qC (v := .slice _ _ _) rfl) ?_
 refine qA (wQ rfl rfl) ?_
 refine qA (qE (v := .int .i64 _) rfl) ?_
 refine qD ?_
 refine xp_dw [] rfl rfl rfl ?_
 refine qG (i := 0) rfl (by decide +kernel) (qC (v := .slice _ _ _) rfl) ?_
 refine qG (i := 1) rfl (by decide +kernel) (qC (v := .int .i64 _) rfl) ?_
 refine qG (i := 2) rfl (by decide +kernel) (pv_sliceHi p.length rfl rfl rfl rfl rfl (by omega)) ?_
 refine qG (i := 3) rfl (by decide +kernel) (qC (v := .slice _ _ _) rfl) ?_
 refine qG (i := 4) rfl (by decide +kernel) (qC (v := .int .i64 _) rfl) ?_
 refine qG (i := 5) rfl (by decide +kernel) (pv_sliceLo (p.length + 1) rfl rfl rfl rfl rfl (by omega) (by omega)) ?_
 refine wV (i := 6) rfl (by decide +kernel) (by decide +kernel) ?_
 refine op_appendIn 0 (m := 1) (cs := p.flatMap intC ++ [Value.int .i64 x] ++ q.flatMap intC ++ J) (cs' := p.flatMap intC ++ q.flatMap intC ++ X) (xs := q.flatMap intC) rfl rfl rfl (fun V => rdIf (p.flatMap intC ++ [Value.int .i64 x]) (q.flatMap intC) J (i := 0) V rfl (by simp only [List.length_append, List.length_cons, List.length_nil]; omega) rfl (fun hne => by have := List.length_pos_iff.2 hne; omega)) (by omega) (flat_plain intP2 q) rfl rfl rfl (by omega) (by simp only [List.length_append, List.length_cons, List.length_nil]; omega) (by rw [Nat.mul_one]; exact hX) ?_
 refine wJ [_] rfl ?_
 refine qG (i := 7) rfl (by decide +kernel) (qE (v := .slice _ _ _) rfl) ?_
 refine dw_end rfl ?_
 refine qD ?_
 refine qB rfl ?_
 refine qA (qC (v := .slice _ _ _) rfl) ?_
 refine qA (qC (v := .slice _ _ _) rfl) ?_
 refine qA (wQ rfl rfl) ?_
 refine qA (qC (v := .int .i64 _) rfl) ?_
 refine qA (pv_sliceS (p.length + q.length) n (A' := some ⟨b0, p.length + q.length, none⟩) (l' := 0 + 1) (c' := cap - (p.length + q.length)) rfl rfl rfl (by omega) rfl rfl rfl (by omega) (by omega) (slA (by omega)) (by omega) rfl) ?_
 refine op_clearP 0 (m := 1) (z := .int .i64 0) (zc := [Value.int .i64 0]) rfl rfl rfl rfl rfl rfl rfl (by simp only [List.length_append, List.length_cons, List.length_nil]; omega) hY ?_
 refine qH [_] rfl ?_
 refine qD ?_
 refine qB rfl ?_
 refine qA (qC (v := .slice _ _ _) rfl) ?_
 refine qA (qE (v := .slice _ _ _) rfl) ?_
 refine qX ?_
 refine qO (vs := [_]) Try.results132 ⟨qL rfl rfl, trivial⟩ fun V => ?_
 obtain ⟨h9, E9, e9, V9⟩ := wl_shed [_] [] V
 exact ⟨h9, [], e9, V9, zA (Ext.refl _) E9, rfl, shed_row e9 (AccP.row (m := 1) (enc := intC) (i := 0) (l := p ++ q) (by show AccP _ _ _ _ (.slice _ (p.length + (n - (p.length + 1))) _); rw [show p.length + (n - (p.length + 1)) = p.length + q.length from by omega]; exact fin) (by omega) (fun _ _ => rfl) V rfl)⟩
end
end Go.Proofs.Ythphpbdmbmiaiaa
namespace Go.Proofs.Ythphpbdmbmiaiaa
open Go Go.HL Go.Proofs Go.Wx Go.Rd
section
variable [Lvl]
set_option maxRecDepth 100000
theorem ins_ok (l : List Int) (z : Int) (i : Nat) (a : Acc) (b : Nat) (h : AH) (ha : AccR 3 1 (l.flatMap intC) a) (hi : i ≤ l.length) (hl : l.length < 2 ^ 20) :
  FnM Try.prog (.func (.func 131) #[] ([] : List Value).toArray) [.slice a.A a.n a.c, .int .i64 (i : Int), .slice (some ⟨b, 0, none⟩) 1 1] h [a.p, some (b, .cells [Value.int .i64 z].toArray 3 (0, 0))] (fun v h' M' => M' = [] ∧ SlR h' 1 intC (l.take i ++ z :: l.drop i) v) := by
 by_cases he : i = l.length
 ·subst he
  rw [List.take_length, List.drop_length]
  exact insE_ok l z a b h ha hl
 ·rcases ha with ⟨h1, h2, _⟩ | ⟨b0, len, cap, junk, h1, h2, h3, h4⟩
  ·exfalso
   have := congrArg List.length h2
   rw [flatI] at this
   simp at this
   subst this
   simp at hi he
   exact he hi
  ·obtain ⟨ap, aA, an, ac⟩ := a
   simp only [Value.slice.injEq] at h2
   obtain ⟨rfl, rfl, rfl⟩ := h2
   simp only at h3
   subst h3
   rw [flatI] at h1
   rw [List.length_append, flatI] at h4
   have e : l.flatMap intC = (l.take i).flatMap intC ++ (l.drop i).flatMap intC := by rw [← List.flatMap_append, List.take_append_drop]
   have hti : (l.take i).length = i := by rw [List.length_take]; omega
   have := insM_ok (l.take i) (l.drop i) z b0 b an ac junk h (by rw [hti, List.length_drop]; omega) (by omega) (List.length_pos_iff.1 (by rw [List.length_drop]; omega)) (by omega)
   rw [hti, ← e] at this
   exact this
theorem delA_ok (l : List Int) (i : Nat) (a : Acc) (h : AH) (ha : AccR 3 1 (l.flatMap intC) a) (hi : i < l.length) (hl : l.length < 2 ^ 20) :
  FnM Try.prog (.func (.func 132) #[] ([] : List Value).toArray) [.slice a.A a.n a.c, .int .i64 (i : Int), .int .i64 ((i : Int) + 1)] h [a.p] (fun v h' M' => M' = [] ∧ SlR h' 1 intC (l.take i ++ l.drop (i + 1)) v) := by
 rcases ha with ⟨h1, h2, _⟩ | ⟨b0, len, cap, junk, h1, h2, h3, h4⟩
 ·exfalso
  have := congrArg List.length h2
  rw [flatI] at this
  simp at this
  subst this
  simp at hi
 ·obtain ⟨ap, aA, an, ac⟩ := a
  simp only [Value.slice.injEq] at h2
  obtain ⟨rfl, rfl, rfl⟩ := h2
  simp only at h3
  subst h3
  rw [flatI] at h1
  rw [List.length_append, flatI] at h4
  have e : l.flatMap intC = (l.take i).flatMap intC ++ [Value.int .i64 l[i]] ++ (l.drop (i + 1)).flatMap intC := by
   have e1 : l = l.take i ++ ([l[i]] ++ l.drop (i + 1)) := by simp
   have e2 : [Value.int .i64 l[i]] = [l[i]].flatMap intC := rfl
   rw [e2, List.append_assoc, ← List.flatMap_append, ← List.flatMap_append, ← e1]
  have hti : (l.take i).length = i := by rw [List.length_take]; omega
  have := del_ok (l.take i) (l.drop (i + 1)) l[i] b0 an ac junk h (by rw [hti, List.length_drop]; omega) (by omega) (by omega)
  rw [hti, ← e] at this
  exact this
theorem cloneIntM (l : List Int) (A : Option Addr) (c : Nat) (h : AH) (R : Row h 1 intC A l) (hl : l.length < 2 ^ 20) :
  FnM Try.prog (.func (.func 119) #[] ([] : List Value).toArray) [.slice A l.length c] h [] (fun v h' M' => ∃ a : Acc, M' = [a.p] ∧ v = .slice a.A a.n a.c ∧ AccR 3 1 (l.flatMap intC) a) :=
 (cloneIntF l A c h R hl).mono (fun v h' M' _ ⟨p, e, a, e1, e2, e3⟩ => ⟨a, by rw [e, e1], e2, e3⟩)
def putE (l : List Int) (n below : Int) (inn : Bool) : Int := if inM n 0 (below - 1) = false then 3 else if inn = true ∧ n ∈ l then 4 else if inn = false ∧ n ∉ l then 11 else 0
def putL (l : List Int) (n : Int) (inn : Bool) : List Int := if inn = true then (l.filter fun x => decide (x < n)) ++ [n] ++ l.filter (fun x => decide (x > n)) else l.filter fun x => x != n
theorem filt_at {l : List Int} {n : Int} {i : Nat} (a : AtP l n i) : l.take i = l.filter (fun x => decide (x < n)) := by
 have e : l.filter (fun x => decide (x < n)) = (l.take i).filter (fun x => decide (x < n)) ++ (l.drop i).filter (fun x => decide (x < n)) := by rw [← List.filter_append, List.take_append_drop]
 have h1 : (l.take i).filter (fun x => decide (x < n)) = l.take i := List.filter_eq_self.2 fun x hx => by
  obtain ⟨k, hk, rfl⟩ := List.getElem_of_mem hx
  rw [List.length_take] at hk
  rw [List.getElem_take]
  exact decide_eq_true (a.2.1 k (by omega) (by omega))
 have h2 : (l.drop i).filter (fun x => decide (x < n)) = [] := List.filter_eq_nil_iff.2 fun x hx => by
  obtain ⟨k, hk, rfl⟩ := List.getElem_of_mem hx
  rw [List.length_drop] at hk
  rw [List.getElem_drop]
  have := a.2.2 (i + k) (by omega) (by omega)
  simp; omega
 rw [e, h1, h2, List.append_nil]
theorem filt_gt {l : List Int} {n : Int} {i : Nat} (a : AtP l n i) (hn : n ∉ l) : l.drop i = l.filter (fun x => decide (x > n)) := by
 have e : l.filter (fun x => decide (x > n)) = (l.take i).filter (fun x => decide (x > n)) ++ (l.drop i).filter (fun x => decide (x > n)) := by rw [← List.filter_append, List.take_append_drop]
 have h1 : (l.drop i).filter (fun x => decide (x > n)) = l.drop i := List.filter_eq_self.2 fun x hx => by
  have hm : x ∈ l := List.mem_of_mem_drop hx
  obtain ⟨k, hk, rfl⟩ := List.getElem_of_mem hx
  rw [List.length_drop] at hk
  rw [List.getElem_drop] at hm ⊢
  have := a.2.2 (i + k) (by omega) (by omega)
  have hne : ¬ l[i + k] = n := fun e => hn (e ▸ hm)
  simp; omega
 have h2 : (l.take i).filter (fun x => decide (x > n)) = [] := List.filter_eq_nil_iff.2 fun x hx => by
  obtain ⟨k, hk, rfl⟩ := List.getElem_of_mem hx
  rw [List.length_take] at hk
  rw [List.getElem_take]
  have := a.2.1 k (by omega) (by omega)
  simp; omega
 rw [e, h1, h2, List.nil_append]
theorem filt_ne {l : List Int} {n : Int} {i : Nat} (p : l.Pairwise (· < ·)) (a : AtP l n i) (hn : n ∈ l) : i < l.length ∧ l.take i ++ l.drop (i + 1) = l.filter (fun x => x != n) := by
 have hi : i < l.length := by
  obtain ⟨k, hk, e⟩ := List.getElem_of_mem hn
  have := a.1
  rcases Nat.lt_or_ge i l.length with h | h
  ·exact h
  ·have := a.2.1 k hk (by omega); omega
 refine ⟨hi, ?_⟩
 have hat : l[i] = n := ((a.mem hi).resolve_right (fun y => y p)).1 hn
 have e1 : l = l.take i ++ (l[i] :: l.drop (i + 1)) := by simp
 have e : l.filter (fun x => x != n) = (l.take i).filter (fun x => x != n) ++ (l[i] :: l.drop (i + 1)).filter (fun x => x != n) := by rw [← List.filter_append, ← e1]
 have h1 : (l.take i).filter (fun x => x != n) = l.take i := List.filter_eq_self.2 fun x hx => by
  obtain ⟨k, hk, rfl⟩ := List.getElem_of_mem hx
  rw [List.length_take] at hk
  rw [List.getElem_take]
  have := a.2.1 k (by omega) (by omega)
  simp; omega
 have h2 : (l.drop (i + 1)).filter (fun x => x != n) = l.drop (i + 1) := List.filter_eq_self.2 fun x hx => by
  obtain ⟨k, hk, rfl⟩ := List.getElem_of_mem hx
  rw [List.length_drop] at hk
  rw [List.getElem_drop]
  have := List.pairwise_iff_getElem.1 p i (i + 1 + k) hi (by omega) (by omega)
  simp; omega
 rw [e, h1, List.filter_cons_of_neg (by simp [hat]), h2]
theorem put_ok (l : List Int) (n below : Int) (inn : Bool) (A : Option Addr) (c : Nat) (h : AH) (R : Row h 1 intC A l) (hl : l.length < 2 ^ 20) (p : l.Pairwise (· < ·)) (hb : 0 ≤ below ∧ below < 2 ^ 20) :
  FnE Try.prog 111 #[.slice A l.length c, .int .i64 n, .int .i64 below, .bool inn] h (fun v h' => putE l n below inn = 0 ∧ SlR h' 1 intC (putL l n inn) v) (fun v _ => putE l n below inn ≠ 0 ∧ v = .iface 145 (.agg #[.int .i64 (putE l n below inn)])) := by
 refine wK Try.func111 rfl Try.ntmps111 rfl ?_
 refine qD ?_
 refine qB rfl ?_
 refine qA (qE (v := .slice _ _ _) rfl) ?_
 refine qD ?_
 refine qD ?_
 refine qB rfl ?_
 refine qA (qC (v := .int .i64 _) rfl) ?_
 refine qA (qC (v := .int .i64 _) rfl) ?_
 refine qA (qS rfl (by omega)) ?_
 refine wI (caps := []) (vs := [.int .i64 _, .int .i64 _, .int .i64 _]) rfl rfl rfl (within_ok n 0 (below - 1) h) ?_
 rintro _ h1 E1 rfl
 refine qA (qN (v := .bool _) rfl) ?_
 refine qT rfl (fun hw => ?_) (fun hw => ?_)
 ·skip
  have hw' : inM n 0 (below - 1) = false := by simpa using hw
  have hE : putE l n below inn = 3 := if_pos hw'
  refine qB rfl ?_
  refine qA (pv_build (zc := [_]) (vs := [(0, .int .i64 _)]) (cs := [_]) rfl rfl rfl rfl rfl rfl) ?_
  refine qA (qN (v := _) rfl) ?_
  refine op_panic rfl ?_
  exact fun V => ⟨rfl, (zA E1 (wA V)), by rw [hE]; decide, by rw [hE]; rfl⟩
 ·skip
  have hw' : inM n 0 (below - 1) = true := by simpa using hw
  have hw2 : ¬ inM n 0 (below - 1) = false := by rw [hw']; decide
  refine qU ?_
  refine qD ?_
  refine qB rfl ?_
  refine qA (qC (v := .slice _ _ _) rfl) ?_
  refine qA (qC (v := .int .i64 _) rfl) ?_
  refine wI (caps := []) (vs := [.slice _ _ _, .int .i64 _]) rfl rfl rfl (search_ok l n A c h1 (R.ext E1) hl p) ?_
  rintro _ h2 E2 ⟨i, rfl, AT⟩
  refine qA (qC (v := .tuple #[.int .i64 _, .bool _]) rfl) ?_
  refine qA (qN (v := .int .i64 _) rfl) ?_
  refine qA (qN (v := .bool _) rfl) ?_
  refine qA (qE (v := .int .i64 _) rfl) ?_
  refine qA (qE (v := .bool _) rfl) ?_
  by_cases hm : n ∈ l
  ·have hd := decide_eq_true hm
   cases inn
   ·obtain ⟨hil, hfi⟩ := filt_ne p AT hm
    have hE : putE l n below false = 0 := by unfold putE; rw [if_neg hw2, if_neg (by simp), if_neg (by simp [hm])]
    refine qD ?_
    refine qQ ?_
    refine qD ?_
    refine qB rfl ?_
    refine qA (qC (v := .bool _) rfl) ?_
    refine qA (qC (v := .bool _) rfl) ?_
    refine qK rfl rfl ?_
    refine qA (wZ rfl rfl (v := .bool _) rfl) ?_
    refine qA (qE (v := .bool _) rfl) ?_
    refine xp_condF rfl (rfl) ?_
    refine qD ?_
    refine qB rfl ?_
    refine qA (qC (v := .bool _) rfl) ?_
    refine qA (qN (v := .bool _) rfl) ?_
    refine qA (qC (v := .bool _) rfl) ?_
    refine qI rfl rfl ?_
    refine qA (qC (v := .bool _) rfl) ?_
    refine qI rfl rfl ?_
    refine qA (qN (v := .bool _) rfl) ?_
    refine qA (wO rfl rfl (v := .bool _) rfl) ?_
    refine qA (qE (v := .bool _) rfl) ?_
    refine xp_condF rfl ((by rw [hd]; rfl)) ?_
    refine qD ?_
    refine qB rfl ?_
    refine qA (qC (v := .bool _) rfl) ?_
    refine qA (qE (v := .bool _) rfl) ?_
    refine xp_condF rfl (rfl) ?_
    refine qU ?_
    refine qD ?_
    refine qB rfl ?_
    refine qA (qC (v := .slice _ _ _) rfl) ?_
    refine op_fnMM [] [] [] rfl rfl rfl (cloneIntM l A c h2 (R.ext (zA E1 E2)) hl) ?_
    rintro _ h3 M3 E3 ⟨a, rfl, rfl, ha⟩
    refine qH [_] rfl ?_
    refine qA (qC (v := .int .i64 _) rfl) ?_
    refine qA (qC (v := .int .i64 _) rfl) ?_
    refine qA (qS rfl (by omega)) ?_
    refine op_fnMM [] [_] [] (vs := [.slice _ _ _, .int .i64 _, .int .i64 _]) rfl rfl rfl (delA_ok l i a h3 ha hil hl) ?_
    rintro _ h4 M4 E4 ⟨rfl, A4, c4, rfl, R4⟩
    refine qH [] rfl ?_
    refine qA (qE (v := .slice _ _ _) rfl) ?_
    refine qX ?_
    refine qO (vs := [_]) Try.results111 ⟨qL rfl rfl, trivial⟩ fun V => ?_
    exact ⟨(zA (zA (zA (zA E1 E2) E3) E4) (wA V)), hE, by show SlR _ 1 intC (l.filter fun x => x != n) _; rw [← hfi]; exact ⟨A4, c4, rfl, R4⟩⟩
   ·skip
    have hE : putE l n below true = 4 := by unfold putE; rw [if_neg hw2, if_pos ⟨rfl, hm⟩]
    refine qD ?_
    refine qQ ?_
    refine qD ?_
    refine qB rfl ?_
    refine qA (qC (v := .bool _) rfl) ?_
    refine qA (qC (v := .bool _) rfl) ?_
    refine qI rfl rfl ?_
    refine qA (qC (v := .bool _) rfl) ?_
    refine qA (wO rfl rfl (v := .bool _) rfl) ?_
    refine qA (qE (v := .bool _) rfl) ?_
    refine xp_condT rfl (hd) ?_
    refine qB rfl ?_
    refine qA (pv_build (zc := [_]) (vs := [(0, .int .i64 _)]) (cs := [_]) rfl rfl rfl rfl rfl rfl) ?_
    refine qA (qN (v := _) rfl) ?_
    refine op_panic rfl ?_
    exact fun V => ⟨rfl, (zA (zA E1 E2) (wA V)), by rw [hE]; decide, by rw [hE]; rfl⟩
  ·have hd := decide_eq_false hm
   cases inn
   ·skip
    have hE : putE l n below false = 11 := by unfold putE; rw [if_neg hw2, if_neg (by simp), if_pos ⟨rfl, hm⟩]
    refine qD ?_
    refine qQ ?_
    refine qD ?_
    refine qB rfl ?_
    refine qA (qC (v := .bool _) rfl) ?_
    refine qA (qC (v := .bool _) rfl) ?_
    refine qK rfl rfl ?_
    refine qA (wZ rfl rfl (v := .bool _) rfl) ?_
    refine qA (qE (v := .bool _) rfl) ?_
    refine xp_condF rfl (rfl) ?_
    refine qD ?_
    refine qB rfl ?_
    refine qA (qC (v := .bool _) rfl) ?_
    refine qA (qN (v := .bool _) rfl) ?_
    refine qA (qC (v := .bool _) rfl) ?_
    refine qI rfl rfl ?_
    refine qA (qC (v := .bool _) rfl) ?_
    refine qI rfl rfl ?_
    refine qA (qN (v := .bool _) rfl) ?_
    refine qA (wO rfl rfl (v := .bool _) rfl) ?_
    refine qA (qE (v := .bool _) rfl) ?_
    refine xp_condT rfl ((by rw [hd]; rfl)) ?_
    refine qB rfl ?_
    refine qA (pv_build (zc := [_]) (vs := [(0, .int .i64 _)]) (cs := [_]) rfl rfl rfl rfl rfl rfl) ?_
    refine qA (qN (v := _) rfl) ?_
    refine op_panic rfl ?_
    exact fun V => ⟨rfl, (zA (zA E1 E2) (wA V)), by rw [hE]; decide, by rw [hE]; rfl⟩
   ·skip
    have hE : putE l n below true = 0 := by unfold putE; rw [if_neg hw2, if_neg (by simp [hm]), if_neg (by simp)]
    refine qD ?_
    refine qQ ?_
    refine qD ?_
    refine qB rfl ?_
    refine qA (qC (v := .bool _) rfl) ?_
    refine qA (qC (v := .bool _) rfl) ?_
    refine qI rfl rfl ?_
    refine qA (qC (v := .bool _) rfl) ?_
    refine qA (wO rfl rfl (v := .bool _) rfl) ?_
    refine qA (qE (v := .bool _) rfl) ?_
    refine xp_condF rfl (hd) ?_
    refine qD ?_
    refine qB rfl ?_
    refine qA (qC (v := .bool _) rfl) ?_
    refine qA (qN (v := .bool _) rfl) ?_
    refine qA (qC (v := .bool _) rfl) ?_
    refine qK rfl rfl ?_
    refine qK rfl rfl ?_
    refine qA (wZ rfl rfl (v := .bool _) rfl) ?_
    refine qA (qE (v := .bool _) rfl) ?_
    refine xp_condF rfl (rfl) ?_
    refine qD ?_
    refine qB rfl ?_
    refine qA (qC (v := .bool _) rfl) ?_
    refine qA (qE (v := .bool _) rfl) ?_
    refine xp_condT rfl (rfl) ?_
    refine qD ?_
    refine qB rfl ?_
    refine qA (qC (v := .slice _ _ _) rfl) ?_
    refine op_fnMM [] [] [] rfl rfl rfl (cloneIntM l A c h2 (R.ext (zA E1 E2)) hl) ?_
    rintro _ h3 M3 E3 ⟨a, rfl, rfl, ha⟩
    refine qH [_] rfl ?_
    refine qA (qC (v := .int .i64 _) rfl) ?_
    refine qA (qC (v := .int .i64 _) rfl) ?_
    refine qZ (zc := [_]) (vs := [(0, .int .i64 _)]) (cs := [_]) rfl rfl rfl rfl rfl rfl rfl fun b46 hb46 => ?_
    refine qH [_, _] rfl ?_
    refine op_fnMM [] [_, _] [] (vs := [.slice _ _ _, .int .i64 _, .slice _ _ _]) rfl rfl rfl (ins_ok l n i a b46 h3 ha AT.1 hl) ?_
    rintro _ h4 M4 E4 ⟨rfl, A4, c4, rfl, R4⟩
    refine qH [] rfl ?_
    refine qA (qE (v := .slice _ _ _) rfl) ?_
    refine qX ?_
    refine qO (vs := [_]) Try.results111 ⟨qL rfl rfl, trivial⟩ fun V => ?_
    exact ⟨(zA (zA (zA (zA E1 E2) E3) E4) (wA V)), hE, by show SlR _ 1 intC ((l.filter fun x => decide (x < n)) ++ [n] ++ l.filter (fun x => decide (x > n))) _; rw [← filt_at AT, ← filt_gt AT hm, List.append_assoc]; exact ⟨A4, c4, rfl, R4⟩⟩
end
end Go.Proofs.Ythphpbdmbmiaiaa
namespace Go.HL
open Go Go.Wx Go.RowKit Go.ChangeShapes Go.WideShapes
variable [Lvl]
section
variable {H : Type} {enc : TypeId × Value → H} {P : Program} {w : World} {base : Nat} {spare : Nat → Bool} {held : Bool}
end
end Go.HL
namespace Go.Rd
structure EvP where
 kind : Int
 which : Int
def evC (e : EvP) : List Go.Value := [.int .i64 e.kind, .int .i64 e.which]
end Go.Rd
namespace Go.Proofs.Ythphpbdmbmiaiaa
open Go Go.HL Go.Wx Go.Rd Go.RowKit Go.ChangeShapes Go.WideShapes
variable [Lvl]
set_option maxRecDepth 100000
section
variable {H : Type} {enc : TypeId × Value → H} {w : World} {base : Nat} {spare : Nat → Bool} {held : Bool}
end
end Go.Proofs.Ythphpbdmbmiaiaa
namespace Go.Proofs.Ythphpbdmbmiaiaa
open Go Go.HL Go.Proofs Go.Wx Go.Rd
section
variable [Lvl]
set_option maxRecDepth 100000
def stepE (m : MachP) (a : HandP) (x : EvP) : Int := if x.kind = 1 ∨ x.kind = 2 then putE a.buttons x.which m.buttons.length (x.kind == 1) else if x.kind = 3 ∨ x.kind = 4 then putE a.on x.which m.regs (x.kind == 3) else 8
def stepH (a : HandP) (x : EvP) : HandP := if x.kind = 1 ∨ x.kind = 2 then ⟨putL a.buttons x.which (x.kind == 1), a.on⟩ else ⟨a.buttons, putL a.on x.which (x.kind == 3)⟩
structure PlP where
 e : Int
 a : HandP
 out : List (List Int)
def playS (m : MachP) (s : PlP) (x : EvP) : PlP := if s.e ≠ 0 then s else if stepE m s.a x ≠ 0 then ⟨stepE m s.a x, s.a, []⟩ else ⟨0, stepH s.a x, s.out ++ [listN (soundsM m (stepH s.a x) m.travel) 6]⟩
def goM (m : MachP) (l : List EvP) : PlP := l.foldl (playS m) ⟨0, ⟨[], []⟩, []⟩
def playM (m : MachP) (l : List EvP) : Int × List (List Int) := if chkM m ≠ 0 then (chkM m, []) else if (l.length : Int) > 12 then (6, []) else ((goM m l).e, (goM m l).out)
theorem goM_snoc (m : MachP) {l : List EvP} {k : Nat} (hk : k < l.length) : goM m (l.take (k + 1)) = playS m (goM m (l.take k)) l[k] := by
 rw [goM, take_snoc hk, List.foldl_append]; rfl
theorem playS_stop {m : MachP} {s : PlP} (h : s.e ≠ 0) : ∀ l : List EvP, l.foldl (playS m) s = s
 | [] => rfl
 | x :: l => by rw [List.foldl_cons, playS, if_pos h, playS_stop h l]
theorem goM_bad (m : MachP) {l : List EvP} {k : Nat} (hk : k < l.length) (h0 : (goM m (l.take k)).e = 0) (h : stepE m (goM m (l.take k)).a l[k] ≠ 0) : goM m l = ⟨stepE m (goM m (l.take k)).a l[k], (goM m (l.take k)).a, []⟩ := by
 have e : goM m (l.take (k + 1)) = ⟨stepE m (goM m (l.take k)).a l[k], (goM m (l.take k)).a, []⟩ := by rw [goM_snoc m hk, playS, if_neg (by simp [h0]), if_pos h]
 have e2 : goM m l = (l.drop (k + 1)).foldl (playS m) (goM m (l.take (k + 1))) := by
  unfold goM
  rw [← List.foldl_append, List.take_append_drop]
 rw [e2, playS_stop (by rw [e]; exact h), e]
theorem goM_good (m : MachP) {l : List EvP} {k : Nat} (hk : k < l.length) (h0 : (goM m (l.take k)).e = 0) (h : stepE m (goM m (l.take k)).a l[k] = 0) : goM m (l.take (k + 1)) = ⟨0, stepH (goM m (l.take k)).a l[k], (goM m (l.take k)).out ++ [listN (soundsM m (stepH (goM m (l.take k)).a l[k]) m.travel) 6]⟩ := by
 rw [goM_snoc m hk, playS, if_neg (by simp [h0]), if_neg (by simp [h])]
theorem putL_ok {l : List Int} {n below : Int} {inn : Bool} (s : SetOK l below) (h : putE l n below inn = 0) : SetOK (putL l n inn) below := by
 unfold putE at h
 by_cases h1 : inM n 0 (below - 1) = false
 ·rw [if_pos h1] at h; cases h
 ·rw [if_neg h1] at h
  have h1' : inM n 0 (below - 1) = true := by simpa using h1
  rw [inM_iff] at h1'
  unfold putL
  by_cases hi : inn = true
  ·rw [if_pos hi]
   refine ⟨fun x hx => ?_, ?_⟩
   ·rw [List.mem_append, List.mem_append, List.mem_singleton] at hx
    rcases hx with (hx | rfl) | hx
    ·exact s.mem x (List.mem_filter.1 hx).1
    ·omega
    ·exact s.mem x (List.mem_filter.1 hx).1
   ·rw [List.append_assoc, List.pairwise_append]
    refine ⟨s.asc.filter _, ?_, ?_⟩
    ·rw [List.singleton_append, List.pairwise_cons]
     exact ⟨fun x hx => of_decide_eq_true (List.mem_filter.1 hx).2, s.asc.filter _⟩
    ·intro x hx y hy
     have hxn := of_decide_eq_true (List.mem_filter.1 hx).2
     rw [List.singleton_append, List.mem_cons] at hy
     rcases hy with rfl | hy
     ·exact hxn
     ·have := of_decide_eq_true (List.mem_filter.1 hy).2
      omega
  ·rw [if_neg hi]
   exact ⟨fun x hx => s.mem x (List.mem_filter.1 hx).1, s.asc.filter _⟩
theorem stepH_ok {m : MachP} {a : HandP} {x : EvP} (H : HOK m a) (h : stepE m a x = 0) : HOK m (stepH a x) := by
 unfold stepE at h
 unfold stepH
 by_cases h1 : x.kind = 1 ∨ x.kind = 2
 ·rw [if_pos h1] at h ⊢; exact ⟨putL_ok H.b h, H.o⟩
 ·rw [if_neg h1] at h ⊢
  by_cases h2 : x.kind = 3 ∨ x.kind = 4
  ·rw [if_pos h2] at h; exact ⟨H.b, putL_ok H.o h⟩
  ·rw [if_neg h2] at h; cases h
theorem hok0 (m : MachP) : HOK m ⟨[], []⟩ := ⟨⟨fun _ h => absurd h List.not_mem_nil, List.Pairwise.nil⟩, ⟨fun _ h => absurd h List.not_mem_nil, List.Pairwise.nil⟩⟩
theorem goM_len (m : MachP) (l : List EvP) : (goM m l).out.length ≤ l.length := by
 have : ∀ (l : List EvP) (s : PlP), (l.foldl (playS m) s).out.length ≤ s.out.length + l.length := by
  intro l
  induction l with
  | nil => intro s; exact Nat.le_refl _
  | cons x l ih =>
   intro s
   rw [List.foldl_cons]
   refine Nat.le_trans (ih _) ?_
   unfold playS
   split
   ·simp
   ·split
    ·simp; omega
    ·simp; omega
 have := this l ⟨0, ⟨[], []⟩, []⟩
 simpa [goM] using this
theorem playClo_nil (b4 b5 : Nat) (L : Pv) (h : AH) (Q : Pv → AH → Prop) (q : Q L h) : Clo Try.prog 18 (bodyOps Try.f110) (bodyRest Try.f110) 5 .nilIface #[.pointer (some ⟨b4, 0, none⟩), .pointer (some ⟨b5, 0, none⟩)] L h Q := by
 refine ⟨rfl, ?_⟩
 refine clo_run rfl rfl rfl ?_
 refine qA (qE (v := _) rfl) ?_
 refine qD ?_
 refine qB rfl ?_
 refine qA (qC (v := _) rfl) ?_
 refine qA (qN (v := .bool _) rfl) ?_
 refine xp_condF rfl (rfl) ?_
 refine qU ?_
 exact ⟨.inl rfl, rfl, q⟩
theorem playClo_pan (b4 b5 : Nat) (e : Int) (p0 p3 p4 p5 : Option (Nat × Obj)) (v4 v5 : Value) (h : AH) (Q : Pv → AH → Prop)
  (q : ∀ b3 o3, Q [p0, some (b4, .cells #[.slice none 0 0] 60 (0, 0)), some (b5, .cells #[.int .i64 e] 42 (0, 0)), p3, p4, p5, some (b3, o3)] h) :
  Clo Try.prog 18 (bodyOps Try.f110) (bodyRest Try.f110) 5 (.iface 145 (.agg #[.int .i64 e])) #[.pointer (some ⟨b4, 0, none⟩), .pointer (some ⟨b5, 0, none⟩)] [p0, some (b4, .cells #[v4] 60 (0, 0)), some (b5, .cells #[v5] 42 (0, 0)), p3, p4, p5] h Q := by
 refine ⟨rfl, ?_⟩
 obtain ⟨K, hK⟩ : ∃ K : Post, K = (fun e (_ : Sl) D L' h' => (e = .normal ∨ e = .ret) ∧ D = [] ∧ Q L' h') := ⟨_, rfl⟩
 rw [← hK]
 refine clo_run rfl rfl rfl ?_
 refine qA (qE (v := _) rfl) ?_
 refine qD ?_
 refine qB rfl ?_
 refine qA (qC (v := _) rfl) ?_
 refine qA (qN (v := .bool _) rfl) ?_
 refine xp_condT rfl (rfl) ?_
 refine qD ?_
 refine qB rfl ?_
 refine qA (qC (v := _) rfl) ?_
 refine qA (pv_assert (v := .agg #[.int .i64 _]) rfl rfl rfl) ?_
 refine qA (qC (v := .tuple #[.agg #[.int .i64 _], .bool _]) rfl) ?_
 refine qA (qN (v := .agg #[.int .i64 _]) rfl) ?_
 refine qA (qN (v := .bool _) rfl) ?_
 refine wW (cs := [_]) rfl rfl fun b3 hb3 => ?_
 refine qH [_, _, _, _, _, _, _] rfl ?_
 refine qY 6 (v := .agg #[.int .i64 _]) (vs := [_]) (c' := [_]) rfl rfl rfl rfl rfl rfl rfl rfl rfl ?_
 refine qH [_, _, _, _, _, _, _] rfl ?_
 refine qA (qE (v := .bool _) rfl) ?_
 refine qD ?_
 refine qD ?_
 refine qB rfl ?_
 refine qA (qC (v := .bool _) rfl) ?_
 refine qA (qN (v := .bool _) rfl) ?_
 refine xp_condF rfl (rfl) ?_
 refine qU ?_
 refine xp_dw [false, true, true, false, false, false, false] rfl rfl rfl ?_
 refine qG (i := 0) rfl (by decide +kernel) (qF rfl rfl rfl rfl 0 rfl) ?_
 refine wE (i := 1) rfl (by decide +kernel) ?_
 refine qJ 6 (v := .int .i64 _) rfl rfl rfl rfl ?_
 refine dw_eff (i := 2) rfl (by decide +kernel) ?_
 refine qY 1 (v := .slice _ _ _) (vs := [_]) (c' := [_]) rfl rfl rfl rfl rfl rfl rfl rfl rfl ?_
 refine ⟨Ext.refl _, ?_⟩
 refine wJ [_, _, _, _, _, _, _] rfl ?_
 refine wV (i := 3) rfl (by decide +kernel) (by decide +kernel) ?_
 refine qY 2 (v := .int .i64 _) (vs := [_]) (c' := [_]) rfl rfl rfl rfl rfl rfl rfl rfl rfl ?_
 refine wJ [_, _, _, _, _, _, _] rfl ?_
 refine dw_end rfl ?_
 rw [hK]
 exact ⟨.inl rfl, rfl, q _ _⟩
end
end Go.Proofs.Ythphpbdmbmiaiaa
namespace Go.Proofs.Ythphpbdmbmiaiaa
open Go Go.HL Go.Proofs Go.Wx Go.Rd
section
variable [Lvl]
set_option maxRecDepth 100000
set_option maxHeartbeats 1000000 in
theorem Play_ok (hph : Lvl.ph = true) (m : MachP) (l : List EvP) (AB AQ AL AW EA : Option Addr) (cB cQ cL cW cE : Nat) (h : AH) (RM : MachR h AB AQ AL AW m) (RE : Row h 2 evC EA l) (h0 : m.weights.length < 2 ^ 40) (hl : l.length < 2 ^ 40) :
  FnT Try.prog 72 #[machV AB AQ AL AW cB cQ cL cW m, .slice EA l.length cE] h (fun v h' => ∃ V, v = .tuple #[V, .int .i64 (playM m l).1] ∧ SlX h' 1 TL (playM m l).2 V) := by
 refine call_defer Try.func72 rfl Try.ntmps72 rfl (ops0 := bodyOps Try.f110) (c2 := bodyRest Try.f110) (m := 18) (t := 5) Try.func110 (by kernel_rfl) rfl Try.ntmps110 rfl rfl rfl rfl rfl rfl ?_
 refine qD ?_
 refine qB rfl ?_
 refine op_box (v := .agg #[.int .i64 _, .int .i64 _, .int .i64 _, .int .i64 _, .int .i64 _, .slice _ _ _, .slice _ _ _, .slice _ _ _, .slice _ _ _]) (cs := [_, _, _, _, _, _, _, _, _]) rfl rfl fun b2 hb2 => ?_
 refine qH [_] rfl ?_
 refine wW (cs := [_]) rfl rfl fun b4 hb4 => ?_
 refine qH [_, _] rfl ?_
 refine wW (cs := [_]) rfl rfl fun b5 hb5 => ?_
 refine qH [_, _, _] rfl ?_
 refine qD ?_
 refine qD ?_
 refine qB rfl ?_
 refine wH 0 (vs := [.int .i64 _, .int .i64 _, .int .i64 _, .int .i64 _, .int .i64 _, .slice _ _ _, .slice _ _ _, .slice _ _ _, .slice _ _ _]) rfl rfl rfl rfl rfl ?_
 refine wI (caps := []) (vs := [.agg #[.int .i64 _, .int .i64 _, .int .i64 _, .int .i64 _, .int .i64 _, .slice _ _ _, .slice _ _ _, .slice _ _ _, .slice _ _ _]]) rfl rfl rfl (Check_ok m AB AQ AL AW cB cQ cL cW h (RM.ext (Ext.refl _)) h0) ?_
 rintro _ h1 E1 rfl
 refine qA (qE (v := .int .i64 _) rfl) ?_
 refine qD ?_
 refine qB rfl ?_
 refine qA (qC (v := .int .i64 _) rfl) ?_
 refine qA (qN (v := .bool _) rfl) ?_
 refine qT rfl (fun hc => ?_) (fun hc => ?_)
 ·skip
  have hc' : chkM m ≠ 0 := by simpa using hc
  refine qD ?_
  refine qB rfl ?_
  refine qA (qC (v := .int .i64 _) rfl) ?_
  refine qY 1 (v := .slice _ _ _) (vs := [_]) (c' := [_]) rfl rfl rfl rfl rfl rfl rfl rfl rfl ?_
  refine qH [_, _, _] rfl ?_
  refine qY 2 (v := .int .i64 _) (vs := [_]) (c' := [_]) rfl rfl rfl rfl rfl rfl rfl rfl rfl ?_
  refine qH [_, _, _] rfl ?_
  refine qX ?_
  exact .inl ⟨rfl, doneK_list (vs := [_, _]) Try.results72 ⟨resV_one 1 rfl rfl rfl rfl (v := .slice _ _ _) rfl, resV_one 2 rfl rfl rfl rfl (v := .int .i64 _) rfl, trivial⟩ (fun V => ⟨(zA E1 (wA V)), _, by rw [playM, if_pos hc']; rfl, by rw [playM, if_pos hc']; exact SlX.nil _ _ _ _ _⟩)⟩
 ·skip
  have hc' : ¬ chkM m ≠ 0 := by simpa using hc
  refine qU ?_
  refine qD ?_
  refine qD ?_
  refine qB rfl ?_
  refine qA (qC (v := .slice _ _ _) rfl) ?_
  refine qA (wQ rfl rfl) ?_
  refine qA (qN (v := .bool _) rfl) ?_
  refine qT rfl (fun hm => ?_) (fun hm => ?_)
  ·skip
   have hm' : (l.length : Int) > 12 := of_decide_eq_true hm
   refine qD ?_
   refine qB rfl ?_
   refine qY 1 (v := .slice _ _ _) (vs := [_]) (c' := [_]) rfl rfl rfl rfl rfl rfl rfl rfl rfl ?_
   refine qH [_, _, _] rfl ?_
   refine qY 2 (v := .int .i64 _) (vs := [_]) (c' := [_]) rfl rfl rfl rfl rfl rfl rfl rfl rfl ?_
   refine qH [_, _, _] rfl ?_
   refine qX ?_
   exact .inl ⟨rfl, doneK_list (vs := [_, _]) Try.results72 ⟨resV_one 1 rfl rfl rfl rfl (v := .slice _ _ _) rfl, resV_one 2 rfl rfl rfl rfl (v := .int .i64 _) rfl, trivial⟩ (fun V => ⟨(zA E1 (wA V)), _, by rw [playM, if_neg hc', if_pos hm']; rfl, by rw [playM, if_neg hc', if_pos hm']; exact SlX.nil _ _ _ _ _⟩)⟩
  ·skip
   have hm' : ¬ (l.length : Int) > 12 := of_decide_eq_false hm
   refine qU ?_
   refine qD ?_
   refine xp_regionD rfl rfl ?_
   refine qA (pv_makeFunc (vs := []) (ws := [_, _]) rfl rfl) ?_
   refine goes_deferF rfl rfl rfl rfl ?_
   refine goes_end ?_
   refine qR [_, _, _] rfl ?_
   have M := check_ok (by simpa using hc' : chkM m = 0)
   have tr := M.travel
   have hbl := M.bl
   have hrg := M.regs
   refine goes_more ?_
   refine qR [_, _, _, _] rfl ?_
   refine qD ?_
   refine qB rfl ?_
   refine wH 0 (vs := [.int .i64 _, .int .i64 _, .int .i64 _, .int .i64 _, .int .i64 _, .slice _ _ _, .slice _ _ _, .slice _ _ _, .slice _ _ _]) rfl rfl rfl rfl rfl ?_
   refine wI (caps := []) (vs := [.agg #[.int .i64 _, .int .i64 _, .int .i64 _, .int .i64 _, .int .i64 _, .slice _ _ _, .slice _ _ _, .slice _ _ _, .slice _ _ _]]) rfl rfl rfl (sounding_ok m AB AQ AL AW cB cQ cL cW h1 (RM.ext E1)) ?_
   rintro _ h2 E2 ⟨bs, AB1, AQ1, AL1, AW1, cB1, cQ1, cL1, cW1, rfl, CM, RM1⟩
   refine qA (qE (v := _) rfl) ?_
   refine qD ?_
   refine qB rfl ?_
   refine wW (cs := [_, _]) rfl rfl fun b8 hb8 => ?_
   refine qH [_, _, _, _, _] rfl ?_
   refine qD ?_
   refine qD ?_
   refine qB rfl ?_
   refine qA (qC (v := .slice _ _ _) rfl) ?_
   refine qA (wQ rfl rfl) ?_
   refine qA (qC (v := .int .i64 _) rfl) ?_
   refine qQ ?_
   refine xp_loopL [10, 24, 25, 26, 27, 28, 29, 30, 31, 32, 33, 34, 35, 36, 37, 38, 39, 40, 41, 42, 43, 44, 45, 46, 47, 48, 49, 50, 51, 52, 53, 54, 55, 56, 57, 58, 59, 60, 61, 62, 63, 64, 65, 66, 67, 68, 69, 70] 5 (α := Nat × Acc × List (List Value) × HandP × Option Addr × Nat × Option Addr × Nat) (fun ⟨k, a, gs, hd, HA, cH, OA, cO⟩ => [(24, .int .i64 k)]) (fun ⟨k, a, gs, hd, HA, cH, OA, cO⟩ L => ((L.set 1 (some (b4, .cells #[.slice a.A a.n a.c] 60 (0, 0)))).set 3 (a.p)).set 4 (some (b8, .cells #[.slice HA hd.buttons.length cH, .slice OA hd.on.length cO] 31 (0, 0)))) (fun ⟨k, a, gs, hd, HA, cH, OA, cO⟩ h_k => k ≤ l.length ∧ (goM m (l.take k)).e = 0 ∧ (goM m (l.take k)).a = hd ∧ HOK m hd ∧ HandR h_k HA OA hd ∧ AccR 22 1 (gs.flatMap id) a ∧ Els h_k TL (goM m (l.take k)).out gs ∧ ∀ x ∈ gs, x.length = 1) (fun ⟨k, a, gs, hd, HA, cH, OA, cO⟩ => l.length - k) ((0, acc0, [], ⟨[], []⟩, none, 0, none, 0)) ⟨rfl, trivial⟩ (rfl) (⟨Nat.zero_le _, rfl, rfl, hok0 m, ⟨⟨fun _ _ => rfl, Rd.nil _ _⟩, ⟨fun _ _ => rfl, Rd.nil _ _⟩⟩, accR0, Els.nil _ _, fun _ hx => absurd hx List.not_mem_nil⟩) ?_
   rintro ⟨k, a, gs, hd, HA, cH, OA, cO⟩ T1 h_k E_k J_k
   refine qR [_, _, _, _, _] rfl ?_
   obtain ⟨K1, K2, K3, K4, K5, K6, K7, K8⟩ := J_k
   refine qD ?_
   refine qB rfl ?_
   refine qA (qN (v := .bool _) rfl) ?_
   refine qD ?_
   refine qT rfl (fun hk => ?_) (fun hk => ?_)
   ·skip
    have hkl : k < l.length := ltI hk
    obtain ⟨g, off, hA, hcE⟩ := (RE.ext (zA (zA E1 E2) E_k)).at (by omega) hkl
    have hb1 := set_len K4.b
    have ho1 : hd.on.length ≤ m.regs.toNat := set_len (below := m.regs.toNat) (by have := K4.o; rwa [← Int.toNat_of_nonneg hrg.1] at this)
    refine qU ?_
    refine qD ?_
    refine qQ ?_
    refine qD ?_
    refine qB rfl ?_
    refine qA (wL rfl hA rfl rfl rfl (by omega) (by omega)) ?_
    refine op_loadA rfl rfl rfl rfl (hcE) ?_
    refine wW (cs := [_, _]) rfl rfl fun b10 hb10 => ?_
    refine qH [_, _, _, _, _, _] rfl ?_
    refine qY 5 (v := .agg #[.int .i64 _, .int .i64 _]) (vs := [_, _]) (c' := [_, _]) rfl rfl rfl rfl rfl rfl rfl rfl rfl ?_
    refine qH [_, _, _, _, _, _] rfl ?_
    refine xp_cutB [28, 29, 30, 31, 32, 33, 34, 35, 36, 37, 38, 39, 40, 41, 42, 43, 44, 45, 46, 47, 48, 49, 50, 51, 52, 53, 54, 55, 56, 57, 58, 59, 60] 6 (α := Option Addr × Nat × Option Addr × Nat) (fun ⟨H9, c9, O9, d9⟩ => []) (fun ⟨H9, c9, O9, d9⟩ L => L.set 4 (some (b8, .cells #[.slice H9 (stepH hd l[k]).buttons.length c9, .slice O9 (stepH hd l[k]).on.length d9] 31 (0, 0)))) (fun ⟨H9, c9, O9, d9⟩ h_H9 => stepE m hd l[k] = 0 ∧ HandR h_H9 H9 O9 (stepH hd l[k])) ?_ ?_
    ·skip
     refine qD ?_
     refine qB rfl ?_
     refine qA (qF rfl rfl rfl rfl 0 rfl) ?_
     refine qJ 5 (v := .int .i64 _) rfl rfl rfl rfl ?_
     refine qQ ?_
     refine xp_cutB [32, 33, 34] 6 (α := Unit) (fun u => [(32, .bool (decide (l[k].kind = 1 ∨ l[k].kind = 2)))]) (fun u L => L) (fun u h_u => True) ?_ ?_
     ·skip
      refine qD ?_
      refine qB rfl ?_
      refine qA (qN (v := .bool _) rfl) ?_
      refine qA (qE (v := .bool _) rfl) ?_
      refine qT rfl (fun q1 => ?_) (fun q1 => ?_)
      ·skip
       have q1' : l[k].kind = 1 := by simpa using q1
       refine qU ?_
       refine ⟨(), ⟨(by show Value.bool _ = _; rw [q1, decide_eq_true (.inl q1')]), trivial⟩, rfl, rfl, (Ext.refl _), fun h3 E3 => by first | trivial | omega | (refine ⟨?_, ?_⟩ <;> omega), ?_⟩
       repeat (first | exact wS _ _ | exact qW _ _ _ | refine wB (by decide) ?_ | refine qV rfl ?_ | refine wD rfl ?_)
      ·skip
       have q1' : ¬ l[k].kind = 1 := by simpa using q1
       refine qB rfl ?_
       refine qA (qN (v := .bool _) rfl) ?_
       refine qA (qE (v := .bool _) rfl) ?_
       refine ⟨(), ⟨(by show Value.bool _ = _; congr 1; by_cases q2 : l[k].kind = 2 <;> simp [q1', q2]), trivial⟩, rfl, rfl, (Ext.refl _), fun h3 E3 => by first | trivial | omega | (refine ⟨?_, ?_⟩ <;> omega), ?_⟩
       repeat (first | exact wS _ _ | exact qW _ _ _ | refine wB (by decide) ?_ | refine qV rfl ?_ | refine wD rfl ?_)
     ·rintro u T3 h_u E_u J_u
      refine qR [_, _, _, _, _, _] rfl ?_
      refine qT rfl (fun hb => ?_) (fun hb => ?_)
      ·skip
       have hb' : l[k].kind = 1 ∨ l[k].kind = 2 := of_decide_eq_true hb
       have hstep : stepE m hd l[k] = putE hd.buttons l[k].which m.buttons.length (l[k].kind == 1) := by unfold stepE; rw [if_pos hb']
       have hsh : stepH hd l[k] = ⟨putL hd.buttons l[k].which (l[k].kind == 1), hd.on⟩ := by unfold stepH; rw [if_pos hb']
       refine qB rfl ?_
       refine qA (qF rfl rfl rfl rfl 0 rfl) ?_
       refine qJ 4 (v := .slice _ _ _) rfl rfl rfl rfl ?_
       refine qA (qF rfl rfl rfl rfl 1 rfl) ?_
       refine qJ 5 (v := .int .i64 _) rfl rfl rfl rfl ?_
       refine qA (qF rfl rfl rfl rfl 5 rfl) ?_
       refine qJ 0 (v := .slice _ _ _) rfl rfl rfl rfl ?_
       refine qA (wQ rfl rfl) ?_
       refine qA (qF rfl rfl rfl rfl 0 rfl) ?_
       refine qJ 5 (v := .int .i64 _) rfl rfl rfl rfl ?_
       refine qA (qN (v := .bool _) rfl) ?_
       refine op_fnE (caps := []) (vs := [.slice _ _ _, .int .i64 _, .int .i64 _, .bool _]) rfl rfl rfl (put_ok hd.buttons l[k].which m.buttons.length (l[k].kind == 1) HA cH h_u (K5.ext E_u).b (by omega) K4.b.asc (by omega)) (fun v h9 E9 q => ?_) ?_
       ·obtain ⟨hne, rfl⟩ := q
        exact Exists.intro _ ⟨rfl, playClo_pan _ _ _ _ _ _ _ _ _ _ _ (fun b3 o3 => doneK_list (vs := [_, _]) Try.results72 ⟨resV_one 1 rfl rfl rfl rfl (v := .slice _ _ _) rfl, resV_one 2 rfl rfl rfl rfl (v := .int .i64 _) rfl, trivial⟩ (fun V => ⟨zA (zA (zA (zA (zA E1 E2) E_k) E_u) E9) (wA V), _, by rw [playM, if_neg hc', if_neg hm', goM_bad m hkl K2 (by rw [K3, hstep]; exact hne)]; show _ = Value.tuple #[_, .int .i64 (stepE m (goM m (l.take k)).a l[k])]; rw [K3, hstep]; rfl, by rw [playM, if_neg hc', if_neg hm', goM_bad m hkl K2 (by rw [K3, hstep]; exact hne)]; exact SlX.nil _ _ _ _ _⟩))⟩
       rintro _ h9 E9 ⟨he, A9, c9, rfl, R9⟩
       refine qA (qF rfl rfl rfl rfl 0 rfl) ?_
       refine qY 4 (v := .slice _ _ _) (vs := [_]) (c' := [_, _]) rfl rfl rfl rfl rfl rfl rfl rfl rfl ?_
       refine qH [_, _, _, _, _, _] rfl ?_
       refine ⟨(A9, c9, OA, cO), trivial, rfl, by rw [hsh]; rfl, (zA E_u E9), fun h3 E3 => ⟨by rw [hstep, he], by rw [hsh]; exact ⟨R9.ext E3, K5.o.ext (zA (zA E_u E9) E3)⟩⟩, ?_⟩
       repeat (first | exact wS _ _ | exact qW _ _ _ | refine wB (by decide) ?_ | refine qV rfl ?_ | refine wD rfl ?_)
      ·skip
       have hb' : ¬ (l[k].kind = 1 ∨ l[k].kind = 2) := of_decide_eq_false hb
       refine xp_cutB [47, 48, 49] 6 (α := Unit) (fun u2 => [(47, .bool (decide (l[k].kind = 3 ∨ l[k].kind = 4)))]) (fun u2 L => L) (fun u2 h_u2 => True) ?_ ?_
       ·skip
        refine qD ?_
        refine qB rfl ?_
        refine qA (qN (v := .bool _) rfl) ?_
        refine qA (qE (v := .bool _) rfl) ?_
        refine qT rfl (fun q1 => ?_) (fun q1 => ?_)
        ·skip
         have q1' : l[k].kind = 3 := by simpa using q1
         refine qU ?_
         refine ⟨(), ⟨(by show Value.bool _ = _; rw [q1, decide_eq_true (.inl q1')]), trivial⟩, rfl, rfl, (Ext.refl _), fun h3 E3 => by first | trivial | omega | (refine ⟨?_, ?_⟩ <;> omega), ?_⟩
         repeat (first | exact wS _ _ | exact qW _ _ _ | refine wB (by decide) ?_ | refine qV rfl ?_ | refine wD rfl ?_)
        ·skip
         have q1' : ¬ l[k].kind = 3 := by simpa using q1
         refine qB rfl ?_
         refine qA (qN (v := .bool _) rfl) ?_
         refine qA (qE (v := .bool _) rfl) ?_
         refine ⟨(), ⟨(by show Value.bool _ = _; congr 1; by_cases q2 : l[k].kind = 4 <;> simp [q1', q2]), trivial⟩, rfl, rfl, (Ext.refl _), fun h3 E3 => by first | trivial | omega | (refine ⟨?_, ?_⟩ <;> omega), ?_⟩
         repeat (first | exact wS _ _ | exact qW _ _ _ | refine wB (by decide) ?_ | refine qV rfl ?_ | refine wD rfl ?_)
       ·rintro u2 T4 h_u2 E_u2 J_u2
        refine qR [_, _, _, _, _, _] rfl ?_
        refine qT rfl (fun hb2 => ?_) (fun hb2 => ?_)
        ·skip
         have hb2' : l[k].kind = 3 ∨ l[k].kind = 4 := of_decide_eq_true hb2
         have hstep : stepE m hd l[k] = putE hd.on l[k].which m.regs (l[k].kind == 3) := by unfold stepE; rw [if_neg hb', if_pos hb2']
         have hsh : stepH hd l[k] = ⟨hd.buttons, putL hd.on l[k].which (l[k].kind == 3)⟩ := by unfold stepH; rw [if_neg hb']
         refine qB rfl ?_
         refine qA (qF rfl rfl rfl rfl 1 rfl) ?_
         refine qJ 4 (v := .slice _ _ _) rfl rfl rfl rfl ?_
         refine qA (qF rfl rfl rfl rfl 1 rfl) ?_
         refine qJ 5 (v := .int .i64 _) rfl rfl rfl rfl ?_
         refine qA (qF rfl rfl rfl rfl 2 rfl) ?_
         refine qJ 0 (v := .int .i64 _) rfl rfl rfl rfl ?_
         refine qA (qF rfl rfl rfl rfl 0 rfl) ?_
         refine qJ 5 (v := .int .i64 _) rfl rfl rfl rfl ?_
         refine qA (qN (v := .bool _) rfl) ?_
         refine op_fnE (caps := []) (vs := [.slice _ _ _, .int .i64 _, .int .i64 _, .bool _]) rfl rfl rfl (put_ok hd.on l[k].which m.regs (l[k].kind == 3) OA cO h_u2 (K5.ext (zA E_u E_u2)).o (by omega) K4.o.asc (by omega)) (fun v h9 E9 q => ?_) ?_
         ·obtain ⟨hne, rfl⟩ := q
          exact Exists.intro _ ⟨rfl, playClo_pan _ _ _ _ _ _ _ _ _ _ _ (fun b3 o3 => doneK_list (vs := [_, _]) Try.results72 ⟨resV_one 1 rfl rfl rfl rfl (v := .slice _ _ _) rfl, resV_one 2 rfl rfl rfl rfl (v := .int .i64 _) rfl, trivial⟩ (fun V => ⟨zA (zA (zA (zA (zA (zA E1 E2) E_k) E_u) E_u2) E9) (wA V), _, by rw [playM, if_neg hc', if_neg hm', goM_bad m hkl K2 (by rw [K3, hstep]; exact hne)]; show _ = Value.tuple #[_, .int .i64 (stepE m (goM m (l.take k)).a l[k])]; rw [K3, hstep]; rfl, by rw [playM, if_neg hc', if_neg hm', goM_bad m hkl K2 (by rw [K3, hstep]; exact hne)]; exact SlX.nil _ _ _ _ _⟩))⟩
         rintro _ h9 E9 ⟨he, A9, c9, rfl, R9⟩
         refine qA (qF rfl rfl rfl rfl 1 rfl) ?_
         refine qY 4 (v := .slice _ _ _) (vs := [_]) (c' := [_, _]) rfl rfl rfl rfl rfl rfl rfl rfl rfl ?_
         refine qH [_, _, _, _, _, _] rfl ?_
         refine ⟨(HA, cH, A9, c9), trivial, rfl, by rw [hsh]; rfl, (zA (zA E_u E_u2) E9), fun h3 E3 => ⟨by rw [hstep, he], by rw [hsh]; exact ⟨K5.b.ext (zA (zA (zA E_u E_u2) E9) E3), R9.ext E3⟩⟩, ?_⟩
         repeat (first | exact wS _ _ | exact qW _ _ _ | refine wB (by decide) ?_ | refine qV rfl ?_ | refine wD rfl ?_)
        ·skip
         have hb2' : ¬ (l[k].kind = 3 ∨ l[k].kind = 4) := of_decide_eq_false hb2
         have hstep : stepE m hd l[k] = 8 := by unfold stepE; rw [if_neg hb', if_neg hb2']
         have hne : (8 : Int) ≠ 0 := by decide
         refine qB rfl ?_
         refine qA (pv_build (zc := [_]) (vs := [(0, .int .i64 _)]) (cs := [_]) rfl rfl rfl rfl rfl rfl) ?_
         refine qA (qN (v := _) rfl) ?_
         refine op_panic rfl ?_
         exact Exists.intro _ ⟨rfl, playClo_pan _ _ _ _ _ _ _ _ _ _ _ (fun b3 o3 => doneK_list (vs := [_, _]) Try.results72 ⟨resV_one 1 rfl rfl rfl rfl (v := .slice _ _ _) rfl, resV_one 2 rfl rfl rfl rfl (v := .int .i64 _) rfl, trivial⟩ (fun V => ⟨(zA (zA (zA (zA (zA E1 E2) E_k) E_u) E_u2) (wA V)), _, by rw [playM, if_neg hc', if_neg hm', goM_bad m hkl K2 (by rw [K3, hstep]; exact hne)]; show _ = Value.tuple #[_, .int .i64 (stepE m (goM m (l.take k)).a l[k])]; rw [K3, hstep]; rfl, by rw [playM, if_neg hc', if_neg hm', goM_bad m hkl K2 (by rw [K3, hstep]; exact hne)]; exact SlX.nil _ _ _ _ _⟩))⟩
    ·rintro ⟨H9, c9, O9, d9⟩ T2 h_H9 E_H9 J_H9
     refine qR [_, _, _, _, _, _] rfl ?_
     obtain ⟨S0, RH9⟩ := J_H9
     have H9' := stepH_ok K4 S0
     have hgo := goM_good m hkl K2 (by rw [K3]; exact S0)
     rw [K3] at hgo
     have hgl : (gs.flatMap id).length = gs.length := by rw [wP (enc := id) (m := 1) K8, Nat.mul_one]
     have hgk : gs.length ≤ k := by rw [K7.1]; have := goM_len m (l.take k); rw [List.length_take] at this; omega
     refine xp_dw [false, false, false, true, false, false] rfl rfl rfl ?_
     refine wE (i := 0) rfl (by decide +kernel) ?_
     refine qJ 1 (v := .slice _ _ _) rfl rfl rfl rfl ?_
     refine qG (i := 1) rfl (by decide +kernel) (qC (v := _) rfl) ?_
     refine wE (i := 2) rfl (by decide +kernel) ?_
     refine wH 4 (vs := [.slice _ _ _, .slice _ _ _]) rfl rfl rfl rfl rfl ?_
     refine qG (i := 3) rfl (by decide +kernel) (qF rfl rfl rfl rfl 3 rfl) ?_
     refine wE (i := 4) rfl (by decide +kernel) ?_
     refine qJ 0 (v := .int .i64 _) rfl rfl rfl rfl ?_
     refine dw_eff (i := 5) rfl (by decide +kernel) ?_
     refine wI  (vs := _) rfl rfl rfl (snd_ok hph m (stepH hd l[k]) (fit_of M H9') (pfit_of M) m.travel (by omega) tr.2 bs AB1 AQ1 AL1 AW1 H9 O9 cB1 cQ1 cL1 cW1 c9 d9 h_H9 (CM.ext (zA E_k E_H9)) (RM1.ext (zA E_k E_H9)) (RH9.ext (Ext.refl _))) ?_
     rintro _ h5 E5 rfl
     refine ⟨ext_wlm E5 _, ?_⟩
     refine dw_eff (i := 6) rfl (by decide +kernel) ?_
     refine wI (caps := []) (vs := [.int .i64 _]) rfl rfl rfl (list_ok (soundsM m (stepH hd l[k]) m.travel) (sounds_small (pfit_of M) _ _) h5) ?_
     rintro _ h6 E6 ⟨Al, cl, rfl, Rl⟩
     refine ⟨ext_wlm E6 _, ?_⟩
     refine dw_eff (i := 7) rfl (by decide +kernel) ?_
     refine qZ (zc := [_]) (vs := [(0, .slice _ _ _)]) (cs := [_]) rfl rfl rfl rfl rfl rfl rfl fun b68 hb68 => ?_
     refine ⟨ext_newM hb68 _, ?_⟩
     refine wJ [_, _, _, _, _, _, _] rfl ?_
     refine wV (i := 8) rfl (by decide +kernel) (by decide +kernel) ?_
     refine wY 3 K6 rfl rfl rfl (fun V => rdP V (i := 6) rfl) rfl rfl rfl rfl rfl rfl rfl rfl rfl (by omega) rfl (by rw [hgl]; simp only [List.length_cons, List.length_nil]; omega) fun a2 h5a E5a ha2 => ?_
     refine wJ [_, _, _, _, _, _, _] rfl ?_
     refine wV (i := 9) rfl (by decide +kernel) (by decide +kernel) ?_
     refine qY 1 (v := .slice _ _ _) (vs := [_]) (c' := [_]) rfl rfl rfl rfl rfl rfl rfl rfl rfl ?_
     refine wJ [_, _, _, _, _, _, _] rfl ?_
     refine dw_end rfl ?_
     refine qB rfl ?_
     refine qA (qS rfl (by omega)) ?_
     refine qA (qC (v := .int .i64 _) rfl) ?_
     refine ⟨(k + 1, a2, gs ++ [[.slice Al (listN (soundsM m (stepH hd l[k]) m.travel) 6).length cl]], stepH hd l[k], H9, c9, O9, d9), ⟨rfl, trivial⟩, rfl, rfl, (zA (zA (zA (zA E_k E_H9) E5) E6) E5a), fun h3 E3 => ⟨hkl, by rw [hgo], by rw [hgo], H9', RH9.ext (zA (zA (zA E5 E6) E5a) E3), by rw [List.flatMap_append]; exact ha2, by rw [hgo]; exact (Els.snoc (K7.ext TL.mono (zA (zA (zA E_H9 E5) E6) E5a)) ⟨_, rfl, Al, cl, rfl, Rl.ext E5a⟩).ext TL.mono E3, one_len K8 rfl⟩, by first | omega | (dsimp only; omega), ?_⟩
     repeat (first | exact qW _ _ _ | refine wB (by decide) ?_ | refine qV rfl ?_ | refine wD rfl ?_)
   ·skip
    have hke : k = l.length := by have := geI hk; omega
    subst hke
    rw [List.take_length] at K2 K3 K7
    refine wT ?_
    refine qD ?_
    refine qB rfl ?_
    refine qJ 1 (v := .slice _ _ _) rfl rfl rfl rfl ?_
    refine qY 1 (v := .slice _ _ _) (vs := [_]) (c' := [_]) rfl rfl rfl rfl rfl rfl rfl rfl rfl ?_
    refine qH [_, _, _, _, _] rfl ?_
    refine qY 2 (v := .int .i64 _) (vs := [_]) (c' := [_]) rfl rfl rfl rfl rfl rfl rfl rfl rfl ?_
    refine qH [_, _, _, _, _] rfl ?_
    refine qX ?_
    refine .inr (Exists.intro _ ⟨rfl, playClo_nil _ _ _ _ _ (doneK_list (vs := [_, _]) Try.results72 ⟨resV_one 1 rfl rfl rfl rfl (v := .slice _ _ _) rfl, resV_one 2 rfl rfl rfl rfl (v := .int .i64 _) rfl, trivial⟩ (fun V => ?_))⟩)
    obtain ⟨A9, c9, e9, R9⟩ := AccP.row (m := 1) (enc := id) (i := 3) (l := gs) K6 (by omega) K8 V rfl
    refine ⟨(zA (zA (zA E1 E2) E_k) (wA V)), _, by rw [playM, if_neg hc', if_neg hm', K2]; rfl, ?_⟩
    rw [playM, if_neg hc', if_neg hm']
    have X := SlX.of (T := TL) (l := (goM m l).out) (cap := c9) R9 (K7.ext TL.mono (wA V)) K7.1.symm
    rw [← e9] at X
    exact X
end
end Go.Proofs.Ythphpbdmbmiaiaa
namespace Go.Proofs.Ythphpbdmbmiaiaa
open Go Go.HL Go.Proofs Go.Wx Go.Rd
section
variable [Lvl]
set_option maxRecDepth 100000
end
end Go.Proofs.Ythphpbdmbmiaiaa
namespace Go.Proofs.Ythphpbdmbmiaiaa
open Go Go.HL Go.Proofs Go.Wx Go.Rd
section
variable [Lvl]
set_option maxRecDepth 100000
end
end Go.Proofs.Ythphpbdmbmiaiaa
namespace Go.Proofs.Ythphpbdmbmiaiaa
open Go Go.HL Go.Proofs Go.Wx Go.Rd
section
variable [Lvl]
set_option maxRecDepth 100000
end
end Go.Proofs.Ythphpbdmbmiaiaa
namespace Go.Rd
open Go Go.HL Go.Wx
variable [Lvl]
structure Mut (m m' : MachP) : Prop where
 lv : m'.levers = m.levers
 op : m'.opn = m.opn
 tv : m'.travel = m.travel
 bt : m'.buttons = m.buttons
 p1 : ∀ p ∈ m'.pins, p ∈ m.pins
 p2 : ∀ p ∈ m.pins, p.lag = m.travel ∨ p ∈ m'.pins
 l1 : ∀ l ∈ m'.links, l ∈ m.links
 l2 : ∀ l ∈ m.links, l.lag = m.travel ∨ l ∈ m'.links
end Go.Rd
namespace Go.Proofs.Ythphpbdmbmiaiaa
open Go Go.HL Go.Proofs Go.Wx Go.Rd
section
variable [Lvl]
set_option maxRecDepth 100000
end
end Go.Proofs.Ythphpbdmbmiaiaa
namespace Go.Proofs.Ythphpbdmbmiaiaa
open Go Go.HL Go.Proofs Go.Wx Go.Rd
section
variable [Lvl]
set_option maxRecDepth 100000
end
end Go.Proofs.Ythphpbdmbmiaiaa
namespace Go.Proofs.Ythphpbdmbmiaiaa
open Go Go.HL Go.Proofs Go.Wx Go.Rd
section
variable [Lvl]
set_option maxRecDepth 100000
end
end Go.Proofs.Ythphpbdmbmiaiaa
namespace Go.Rd
open Go Go.HL Go.Wx
variable [Lvl]
end Go.Rd
namespace Go.Proofs.Ythphpbdmbmiaiaa
open Go Go.HL Go.Proofs Go.Wx Go.Rd
section
variable [Lvl]
set_option maxRecDepth 100000
structure Sml (m : MachP) : Prop where
 b : m.buttons.length < 2 ^ 20
 q : m.pins.length < 2 ^ 20
 l : m.links.length < 2 ^ 20
 w : m.weights.length < 2 ^ 20
structure SmlH (a : HandP) : Prop where
 b : a.buttons.length < 2 ^ 20
 o : a.on.length < 2 ^ 20
end
end Go.Proofs.Ythphpbdmbmiaiaa
namespace Go.Proofs.Ythphpbdmbmiaiaa
open Go Go.HL Go.Proofs Go.Wx Go.Rd
section
variable [Lvl]
set_option maxRecDepth 100000
end
end Go.Proofs.Ythphpbdmbmiaiaa
namespace Go.Proofs.Ythphpbdmbmiaiaa
open Go Go.HL Go.Proofs Go.Wx Go.Rd
section
variable [Lvl]
set_option maxRecDepth 100000
end
end Go.Proofs.Ythphpbdmbmiaiaa
namespace Go.Proofs.Ythphpbdmbmiaiaa
open Go Go.HL Go.Proofs Go.Wx Go.Rd
section
variable [Lvl]
set_option maxRecDepth 100000
abbrev machC (AB AQ AL AW : Option Addr) (cB cQ cL cW : Nat) (m : MachP) : List Value := [.int .i64 m.rods, .int .i64 m.levers, .int .i64 m.regs, .int .i64 m.travel, .int .i64 m.opn, .slice AB m.buttons.length cB, .slice AQ m.pins.length cQ, .slice AL m.links.length cL, .slice AW m.weights.length cW]
def TMa (h : AH) (m : MachP) (c : List Value) : Prop := ∃ AB AQ AL AW cB cQ cL cW, c = machC AB AQ AL AW cB cQ cL cW m ∧ MachR h AB AQ AL AW m ∧ m.pins.length ≤ cQ ∧ m.links.length ≤ cL
theorem TMa.mono : Mono TMa := fun h h' m c e ⟨AB, AQ, AL, AW, cB, cQ, cL, cW, hc, r, s⟩ => ⟨AB, AQ, AL, AW, cB, cQ, cL, cW, hc, r.ext e, s⟩
theorem sameIntsS_ok (a : List Int) (A B : Option Addr) (ca cb : Nat) (h : AH) (Ra : Row h 1 intC A a) (Rb : Row h 1 intC B a) (ha : a.length < 2 ^ 40) :
  FnT Try.prog 40 #[.slice A a.length ca, .slice B a.length cb] h (fun v _ => v = .bool true) :=
 (sameInts_ok a a A B ca cb h Ra Rb ha).mono (fun v _ e => ⟨e.1, e.2.trans (boolE (decide_eq_true rfl))⟩) fun _ _ e => e
end
end Go.Proofs.Ythphpbdmbmiaiaa
namespace Go.Proofs.Ythphpbdmbmiaiaa
open Go Go.HL Go.Proofs Go.Wx Go.Rd
section
variable [Lvl]
set_option maxRecDepth 100000
end
end Go.Proofs.Ythphpbdmbmiaiaa
namespace Go.Proofs.Ythphpbdmbmiaiaa
open Go Go.HL Go.Proofs Go.Wx Go.Rd
section
variable [Lvl]
set_option maxRecDepth 100000
end
end Go.Proofs.Ythphpbdmbmiaiaa
namespace Go.Proofs.Ythphpbdmbmiaiaa
open Go Go.HL Go.Proofs Go.Wx Go.Rd
section
variable [Lvl]
set_option maxRecDepth 100000
theorem AccR.room {e : TypeId} {m : Nat} {cs : List Value} {a : Acc} (r : AccR e m cs a) (hm : 0 < m) : a.n ≤ a.c := by
 rcases r with ⟨_, _, A, ev⟩ | ⟨b, len, cap, junk, hl, ev, _, hc⟩
 ·injection ev with _ h1 h2; omega
 ·injection ev with _ h1 h2
  rw [List.length_append, hl] at hc
  have : len * m ≤ cap * m := by omega
  have := Nat.le_of_mul_le_mul_right this hm
  omega
end
end Go.Proofs.Ythphpbdmbmiaiaa
