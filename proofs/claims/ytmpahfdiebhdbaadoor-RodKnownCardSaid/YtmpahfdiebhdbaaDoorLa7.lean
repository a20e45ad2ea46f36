/- An own logic over the model, its walks and its plain laws, joined of parts V6 Uk. Conditions: as each theorem states. -/
import Derived.Test.YtmpahfdiebhdbaaDoorLa6
import Derived.Test.YtmpahfdiebhdbaaDoorLa5
import Derived.Conc.LeavingOf
import Derived.LaidMore
import Derived.SevenTiedAt
set_option linter.all false
namespace Go.Proofs.YtmpahfdiebhdbaaDoor
open Go Go.HL Go.Proofs Go.Wx Go.Rd
section
set_option maxRecDepth 100000
set_option maxHeartbeats 16000000 in
theorem known_runs (w : World) (hP : Pow (absH w.heap)) : RunsTrue Tryd.prog 3 #[] w := by
 letI : Lvl := ⟨true, none, none⟩
 refine runs_body Tryd.func3 rfl Tryd.ntmps3 rfl Tryd.results3 rfl (by kernel_rfl) fun h hh => ?_
 rw [← hh] at hP
 refine qE ?_
 refine qC rfl ?_
 refine qA (qF (v := .bool _) rfl) ?_
 refine qE ?_
 refine qC rfl ?_
 refine qV (caps := []) (vs := []) rfl rfl rfl (machine_ok h) ?_
 rintro _ h1 E1 ⟨AB1, AQ1, AL1, AW1, cB1, cQ1, cL1, cW1, rfl, RM1⟩
 refine op_fnMM [] [] [] rfl rfl rfl (machine_okM h1) ?_
 rintro _ h2 _ E2 ⟨pB, pQ, pL, pW, rfl, rfl⟩
 refine qH [_, _, _, _] rfl ?_
 refine op_fnMM [_, _, _, _] [] [] rfl rfl rfl (machine_okM h2) ?_
 rintro _ h3 _ E3 ⟨qB, qQ, qL, qW, rfl, rfl⟩
 refine qH [_, _, _, _, _, _, _, _] rfl ?_
 refine qV (caps := []) (vs := []) rfl rfl rfl (machine_okC h3) ?_
 rintro _ h4 E4 ⟨p4, q4, l4, w4, rfl, RM4⟩
 refine qV (caps := []) (vs := []) rfl rfl rfl (machine_okC h4) ?_
 rintro _ h5 E5 ⟨p5, q5, l5, w5, rfl, RM5⟩
 refine wW (cs := [_, _, _, _, _, _, _, _, _]) rfl rfl fun b1 hb1 => ?_
 refine qH [_, _, _, _, _, _, _, _, _] rfl ?_
 refine wW (cs := [_, _, _, _, _, _, _, _, _]) rfl rfl fun b2 hb2 => ?_
 refine qH [_, _, _, _, _, _, _, _, _, _] rfl ?_
 refine wW (cs := [_, _, _, _, _, _, _, _, _]) rfl rfl fun b3 hb3 => ?_
 refine qH [_, _, _, _, _, _, _, _, _, _, _] rfl ?_
 refine wW (cs := [_, _, _, _, _, _, _, _, _]) rfl rfl fun b4 hb4 => ?_
 refine qH [_, _, _, _, _, _, _, _, _, _, _, _] rfl ?_
 refine wW (cs := [_, _, _, _, _, _, _, _, _]) rfl rfl fun b5 hb5 => ?_
 refine qH [_, _, _, _, _, _, _, _, _, _, _, _, _] rfl ?_
 refine wG 8 (v := .agg #[.int .i64 _, .int .i64 _, .int .i64 _, .int .i64 _, .int .i64 _, .slice _ _ _, .slice _ _ _, .slice _ _ _, .slice _ _ _]) (vs := [_, _, _, _, _, _, _, _, _]) (c' := [_, _, _, _, _, _, _, _, _]) rfl rfl rfl rfl rfl rfl rfl rfl rfl ?_
 refine qH [_, _, _, _, _, _, _, _, _, _, _, _, _] rfl ?_
 refine wG 9 (v := .agg #[.int .i64 _, .int .i64 _, .int .i64 _, .int .i64 _, .int .i64 _, .slice _ _ _, .slice _ _ _, .slice _ _ _, .slice _ _ _]) (vs := [_, _, _, _, _, _, _, _, _]) (c' := [_, _, _, _, _, _, _, _, _]) rfl rfl rfl rfl rfl rfl rfl rfl rfl ?_
 refine qH [_, _, _, _, _, _, _, _, _, _, _, _, _] rfl ?_
 refine wG 10 (v := .agg #[.int .i64 _, .int .i64 _, .int .i64 _, .int .i64 _, .int .i64 _, .slice _ _ _, .slice _ _ _, .slice _ _ _, .slice _ _ _]) (vs := [_, _, _, _, _, _, _, _, _]) (c' := [_, _, _, _, _, _, _, _, _]) rfl rfl rfl rfl rfl rfl rfl rfl rfl ?_
 refine qH [_, _, _, _, _, _, _, _, _, _, _, _, _] rfl ?_
 refine wG 11 (v := .agg #[.int .i64 _, .int .i64 _, .int .i64 _, .int .i64 _, .int .i64 _, .slice _ _ _, .slice _ _ _, .slice _ _ _, .slice _ _ _]) (vs := [_, _, _, _, _, _, _, _, _]) (c' := [_, _, _, _, _, _, _, _, _]) rfl rfl rfl rfl rfl rfl rfl rfl rfl ?_
 refine qH [_, _, _, _, _, _, _, _, _, _, _, _, _] rfl ?_
 refine wG 12 (v := .agg #[.int .i64 _, .int .i64 _, .int .i64 _, .int .i64 _, .int .i64 _, .slice _ _ _, .slice _ _ _, .slice _ _ _, .slice _ _ _]) (vs := [_, _, _, _, _, _, _, _, _]) (c' := [_, _, _, _, _, _, _, _, _]) rfl rfl rfl rfl rfl rfl rfl rfl rfl ?_
 refine qH [_, _, _, _, _, _, _, _, _, _, _, _, _] rfl ?_
 refine qE ?_
 refine xp_dw [true, false, false, false, false, false, true, false, true, false, false, false, false] rfl rfl rfl ?_
 refine qO (i := 0) rfl (by decide +kernel) (qI rfl rfl rfl rfl 5 rfl) ?_
 refine wQ (i := 1) rfl (by decide +kernel) ?_
 refine qN 9 (v := .slice _ _ _) rfl rfl rfl rfl ?_
 refine qO (i := 2) rfl (by decide +kernel) (qI rfl rfl rfl rfl 7 rfl) ?_
 refine wQ (i := 3) rfl (by decide +kernel) ?_
 refine qN 10 (v := .slice _ _ _) rfl rfl rfl rfl ?_
 refine qO (i := 4) rfl (by decide +kernel) (qI rfl rfl rfl rfl 8 rfl) ?_
 refine wQ (i := 5) rfl (by decide +kernel) ?_
 refine qN 11 (v := .slice _ _ _) rfl rfl rfl rfl ?_
 refine qO (i := 6) rfl (by decide +kernel) (pv_sliceHi (m := 1) 3 rfl rfl rfl rfl rfl (by decide)) ?_
 refine qO (i := 7) rfl (by decide +kernel) (qI rfl rfl rfl rfl 4 rfl) ?_
 refine dw_eff (i := 8) rfl (by decide +kernel) ?_
 refine wG 8 (v := .int .i64 _) (vs := [_]) (c' := [_, _, _, _, _, _, _, _, _]) rfl rfl rfl rfl rfl rfl rfl rfl rfl ?_
 refine ⟨Ext.refl _, ?_⟩
 refine zI [_, _, _, _, _, _, _, _, _, _, _, _, _] rfl ?_
 refine qO (i := 9) rfl (by decide +kernel) (zJ (m := 1) rfl rfl rfl rfl (by decide) (by decide)) ?_
 refine dw_eff (i := 10) rfl (by decide +kernel) ?_
 refine wG 0 (v := .int .i64 _) (vs := [_]) (c' := [_, _]) rfl rfl rfl rfl rfl rfl rfl rfl rfl ?_
 refine ⟨Ext.refl _, ?_⟩
 refine zI [_, _, _, _, _, _, _, _, _, _, _, _, _] rfl ?_
 refine qO (i := 11) rfl (by decide +kernel) (zJ (m := 4) rfl rfl rfl rfl (by decide) (by decide)) ?_
 refine qO (i := 12) rfl (by decide +kernel) (qI rfl rfl rfl rfl _ rfl) ?_
 refine dw_eff (i := 13) rfl (by decide +kernel) ?_
 refine wG 6 (v := .int .i64 _) (vs := [_]) (c' := [_, _, _, _, _, _, _, _]) rfl rfl rfl rfl rfl rfl rfl rfl rfl ?_
 refine ⟨Ext.refl _, ?_⟩
 refine zI [_, _, _, _, _, _, _, _, _, _, _, _, _] rfl ?_
 refine qO (i := 14) rfl (by decide +kernel) (qI rfl rfl rfl rfl 8 rfl) ?_
 refine dw_last (i := 15) rfl (by decide +kernel) (by decide +kernel) ?_
 refine wG 11 (v := .slice _ _ _) (vs := [_]) (c' := [_, _, _, _, _, _, _, _, _]) rfl rfl rfl rfl rfl rfl rfl rfl rfl ?_
 refine zI [_, _, _, _, _, _, _, _, _, _, _, _, _] rfl ?_
 refine dw_end rfl ?_
 refine qE ?_
 refine xp_dw2 rfl rfl rfl ?_
 refine dw2_pure (i := 0) rfl (by decide +kernel) (qI rfl rfl rfl rfl 6 rfl) ?_
 refine dw2_load (i := 1) (v := .slice _ _ _) rfl (by decide +kernel) rfl rfl (fun V => cell_priv V (j := 12) rfl rfl) ?_
 refine dw2_pure (i := 2) rfl (by decide +kernel) (pv_sliceS (m := 3) 1 2 rfl rfl rfl rfl rfl rfl rfl (by decide) (by decide) (A' := some ⟨q5, 3, none⟩) (l' := 1) (c' := 3) (by rw [if_neg (by decide), Option.map_some, add_none]) rfl rfl) ?_
 refine dw2_pure (i := 3) rfl (by decide +kernel) (qI rfl rfl rfl rfl 7 rfl) ?_
 refine dw2_load (i := 4) (v := .slice _ _ _) rfl (by decide +kernel) rfl rfl (fun V => cell_priv V (j := 12) rfl rfl) ?_
 refine dw2_pure (i := 5) rfl (by decide +kernel) (pv_sliceLoS (m := 4) 1 rfl rfl rfl rfl rfl (by decide) (by decide) (A' := some ⟨l5, 4, none⟩) (l' := 1) (c' := 1) (by rw [if_neg (by decide), Option.map_some, add_none]) rfl rfl) ?_
 refine dw2_pure (i := 6) rfl (by decide +kernel) (qI rfl rfl rfl rfl 6 rfl) ?_
 refine dw2_eff (i := 7) (C' := [(4, ⟨b5, 7, none⟩, .slice (some ⟨l5, 0, none⟩) 2 2)]) rfl (by decide +kernel) (fun c hc => by cases List.mem_singleton.1 hc; exact List.mem_cons_self ..) (fun c hc => ?_) ?_
 ·rcases List.mem_cons.1 hc with rfl | hc
  ·exact .inl (List.mem_singleton.2 rfl)
  ·cases List.mem_singleton.1 hc; exact .inr rfl
 refine wG 12 (v := .slice _ _ _) (vs := [_]) (c' := [_, _, _, _, _, _, _, _, _]) rfl rfl rfl rfl rfl rfl rfl rfl rfl ?_
 refine ⟨fun V c hc => by cases List.mem_singleton.1 hc; exact (cell_priv V (j := 12) rfl rfl), ?_⟩
 refine dw2_pure (i := 8) rfl (by decide +kernel) (qI rfl rfl rfl rfl 7 rfl) ?_
 refine dw2_eff (i := 9) (C' := []) rfl (by decide +kernel) (fun c hc => by cases hc) (fun c hc => ?_) ?_
 ·cases List.mem_singleton.1 hc; exact .inr rfl
 refine wG 12 (v := .slice _ _ _) (vs := [_]) (c' := [_, _, _, _, _, _, _, _, _]) rfl rfl rfl rfl rfl rfl rfl rfl rfl ?_
 refine ⟨fun V c hc => (by cases hc), ?_⟩
 refine dw2_end rfl ?_
 refine wE [_, _, _, _, _, _, _, _, _, _, _, _, _] rfl ?_
 refine goes_pub 0 rfl ?_
 intro g1 G1 P1
 refine goes_pub 1 rfl ?_
 intro g2 G2 P2
 refine goes_pub 2 rfl ?_
 intro g3 G3 P3
 refine goes_pub 3 rfl ?_
 intro g4 G4 P4
 refine goes_pub 4 rfl ?_
 intro g5 G5 P5
 refine goes_pub 5 rfl ?_
 intro g6 G6 P6
 refine goes_pub 6 rfl ?_
 intro g7 G7 P7
 refine goes_pub 7 rfl ?_
 intro g8 G8 P8
 have RMb : MachR g8 _ _ _ _ machBtn := mr_btn ((zL (zL (zL (zL (zL (zL G2 G3) G4) G5) G6) G7) G8) _ _ P1) ((zL (zL (zL (zL (zL G3 G4) G5) G6) G7) G8) _ _ P2) ((zL (zL (zL (zL G4 G5) G6) G7) G8) _ _ P3) ((zL (zL (zL G5 G6) G7) G8) _ _ P4)
 have RMl : MachR g8 _ _ _ _ machLnk := mr_lnk ((zL (zL G6 G7) G8) _ _ P5) ((zL G7 G8) _ _ P6) (G8 _ _ P7) P8
 refine wE [_, _, _, _, _, _, _, _, _, _, _, _, _] rfl ?_
 refine qE ?_
 refine qE ?_
 refine qC rfl ?_
 refine qV (caps := []) (vs := []) rfl rfl rfl (rod_sounding rfl g8) ?_
 rintro _ h6 E6 rfl
 refine qA (qJ (v := .bool _) rfl) ?_
 refine qA (qD (v := .bool _) rfl) ?_
 refine qG rfl rfl ?_
 refine qV (caps := []) (vs := []) rfl rfl rfl (machine_ok h6) ?_
 rintro _ h7 E7 ⟨AB6, AQ6, AL6, AW6, cB6, cQ6, cL6, cW6, rfl, RM6⟩
 refine qG rfl rfl ?_
 refine qV (caps := []) (vs := [.agg #[.int .i64 _, .int .i64 _, .int .i64 _, .int .i64 _, .int .i64 _, .slice _ _ _, .slice _ _ _, .slice _ _ _, .slice _ _ _]]) rfl rfl rfl ((chk_c mach0 0 (by decide +kernel) (by decide) _ _ _ _ _ _ _ _ h7 RM6)) ?_
 rintro _ h8 E8 rfl
 refine qG rfl rfl ?_
 refine qA (qJ (v := .bool _) rfl) ?_
 refine qA (wI rfl rfl (v := .bool _) rfl) ?_
 refine qA (qD (v := .bool _) rfl) ?_
 refine qG rfl rfl ?_
 refine wH 8 (vs := [.int .i64 _, .int .i64 _, .int .i64 _, .int .i64 _, .int .i64 _, .slice _ _ _, .slice _ _ _, .slice _ _ _, .slice _ _ _]) rfl rfl rfl rfl rfl ?_
 refine qG rfl rfl ?_
 refine qV (caps := []) (vs := [.agg #[.int .i64 _, .int .i64 _, .int .i64 _, .int .i64 _, .int .i64 _, .slice _ _ _, .slice _ _ _, .slice _ _ _, .slice _ _ _]]) rfl rfl rfl ((chk_c machOpen 1 (by decide +kernel) (by decide) AB1 AQ1 AL1 AW1 cB1 cQ1 cL1 cW1 h8 (mr_open (RM1.ext (zL (zL (zL (zL (zL (zL (zL (zL (zL (zL (zL (zL (zL (zL E2 E3) E4) E5) G1) G2) G3) G4) G5) G6) G7) G8) E6) E7) E8))))) ?_
 rintro _ h9 E9 rfl
 refine qG rfl rfl ?_
 refine qA (qJ (v := .bool _) rfl) ?_
 refine qA (wI rfl rfl (v := .bool _) rfl) ?_
 refine qA (qD (v := .bool _) rfl) ?_
 refine qG rfl rfl ?_
 refine wH 9 (vs := [.int .i64 _, .int .i64 _, .int .i64 _, .int .i64 _, .int .i64 _, .slice _ _ _, .slice _ _ _, .slice _ _ _, .slice _ _ _]) rfl rfl rfl rfl rfl ?_
 refine qG rfl rfl ?_
 refine qV (caps := []) (vs := [.agg #[.int .i64 _, .int .i64 _, .int .i64 _, .int .i64 _, .int .i64 _, .slice _ _ _, .slice _ _ _, .slice _ _ _, .slice _ _ _]]) rfl rfl rfl ((chk_c machBtn 3 (by decide +kernel) (by decide) _ _ _ _ _ _ _ _ h9 (RMb.ext (zL (zL (zL E6 E7) E8) E9)))) ?_
 rintro _ h10 E10 rfl
 refine qG rfl rfl ?_
 refine qA (qJ (v := .bool _) rfl) ?_
 refine qA (wI rfl rfl (v := .bool _) rfl) ?_
 refine qA (qD (v := .bool _) rfl) ?_
 refine qG rfl rfl ?_
 refine wH 10 (vs := [.int .i64 _, .int .i64 _, .int .i64 _, .int .i64 _, .int .i64 _, .slice _ _ _, .slice _ _ _, .slice _ _ _, .slice _ _ _]) rfl rfl rfl rfl rfl ?_
 refine qG rfl rfl ?_
 refine qV (caps := []) (vs := [.agg #[.int .i64 _, .int .i64 _, .int .i64 _, .int .i64 _, .int .i64 _, .slice _ _ _, .slice _ _ _, .slice _ _ _, .slice _ _ _]]) rfl rfl rfl ((chk_c machLnk 4 (by decide +kernel) (by decide) _ _ _ _ _ _ _ _ h10 (RMl.ext (zL (zL (zL (zL E6 E7) E8) E9) E10)))) ?_
 rintro _ h11 E11 rfl
 refine qG rfl rfl ?_
 refine qA (qJ (v := .bool _) rfl) ?_
 refine qA (wI rfl rfl (v := .bool _) rfl) ?_
 refine qA (qD (v := .bool _) rfl) ?_
 refine qG rfl rfl ?_
 refine wH 11 (vs := [.int .i64 _, .int .i64 _, .int .i64 _, .int .i64 _, .int .i64 _, .slice _ _ _, .slice _ _ _, .slice _ _ _, .slice _ _ _]) rfl rfl rfl rfl rfl ?_
 refine qG rfl rfl ?_
 refine qV (caps := []) (vs := [.agg #[.int .i64 _, .int .i64 _, .int .i64 _, .int .i64 _, .int .i64 _, .slice _ _ _, .slice _ _ _, .slice _ _ _, .slice _ _ _]]) rfl rfl rfl ((chk_c machWgt 2 (by decide +kernel) (by decide) _ _ _ _ _ _ _ _ h11 (mr_wgt (RM4.ext (zL (zL (zL (zL (zL (zL (zL (zL (zL (zL (zL (zL (zL (zL E5 G1) G2) G3) G4) G5) G6) G7) G8) E6) E7) E8) E9) E10) E11))))) ?_
 rintro _ h12 E12 rfl
 refine qG rfl rfl ?_
 refine qA (qJ (v := .bool _) rfl) ?_
 refine qA (wI rfl rfl (v := .bool _) rfl) ?_
 refine wO rfl (rfl) ?_
 refine qP ?_
 refine qE ?_
 refine qC rfl ?_
 refine qK (zc := [_]) (vs := [(0, .int .i64 _)]) (cs := [_]) rfl rfl rfl rfl rfl rfl rfl fun b82 hb82 => ?_
 refine qH [_, _, _, _, _, _, _, _, _, _, _, _, _, _] rfl ?_
 refine qV (caps := []) (vs := [.slice _ _ _]) rfl rfl rfl (pressed_ok [0] _ _ h12) ?_
 rintro _ h13 E13 rfl
 refine qK (zc := [_]) (vs := [(0, .int .i64 _)]) (cs := [_]) rfl rfl rfl rfl rfl rfl rfl fun b84 hb84 => ?_
 refine qH [_, _, _, _, _, _, _, _, _, _, _, _, _, _, _] rfl ?_
 refine qV (caps := []) (vs := [.slice _ _ _]) rfl rfl rfl (pressed_ok [1] _ _ h13) ?_
 rintro _ h14 E14 rfl
 refine qK (zc := [_]) (vs := [(0, .int .i64 _)]) (cs := [_]) rfl rfl rfl rfl rfl rfl rfl fun b86 hb86 => ?_
 refine qH [_, _, _, _, _, _, _, _, _, _, _, _, _, _, _, _] rfl ?_
 refine qK (zc := [_]) (vs := [(0, .int .i64 _)]) (cs := [_]) rfl rfl rfl rfl rfl rfl rfl fun b87 hb87 => ?_
 refine qH [_, _, _, _, _, _, _, _, _, _, _, _, _, _, _, _, _] rfl ?_
 refine qA (wX (zc := [_, _]) (vs := [(0, .slice _ _ _), (1, .slice _ _ _)]) (cs := [_, _]) rfl rfl rfl rfl rfl rfl) ?_
 refine qK (zc := [_, _]) (vs := [(0, .agg #[.slice _ _ _, .slice _ _ _]), (1, .agg #[.slice _ _ _, .slice _ _ _]), (2, .agg #[.slice _ _ _, .slice _ _ _])]) (cs := [_, _, _, _, _, _]) rfl rfl rfl rfl rfl rfl rfl fun b89 hb89 => ?_
 refine qH [_, _, _, _, _, _, _, _, _, _, _, _, _, _, _, _, _, _] rfl ?_
 refine qK (zc := [_]) (vs := [(0, .int .i64 _), (1, .int .i64 _), (2, .int .i64 _)]) (cs := [_, _, _]) rfl rfl rfl rfl rfl rfl rfl fun b90 hb90 => ?_
 refine qH [_, _, _, _, _, _, _, _, _, _, _, _, _, _, _, _, _, _, _] rfl ?_
 refine qK (zc := [_]) (vs := [(0, .int .i64 _), (1, .int .i64 _), (2, .int .i64 _)]) (cs := [_, _, _]) rfl rfl rfl rfl rfl rfl rfl fun b91 hb91 => ?_
 refine qH [_, _, _, _, _, _, _, _, _, _, _, _, _, _, _, _, _, _, _, _] rfl ?_
 refine qK (zc := [_]) (vs := [(0, .int .i64 _), (1, .int .i64 _), (2, .int .i64 _)]) (cs := [_, _, _]) rfl rfl rfl rfl rfl rfl rfl fun b92 hb92 => ?_
 refine qH [_, _, _, _, _, _, _, _, _, _, _, _, _, _, _, _, _, _, _, _, _] rfl ?_
 refine qK (zc := [_]) (vs := [(0, .slice _ _ _), (1, .slice _ _ _), (2, .slice _ _ _)]) (cs := [_, _, _]) rfl rfl rfl rfl rfl rfl rfl fun b93 hb93 => ?_
 refine qH [_, _, _, _, _, _, _, _, _, _, _, _, _, _, _, _, _, _, _, _, _, _] rfl ?_
 refine qA (qF (v := .slice _ _ _) rfl) ?_
 refine qA (qF (v := .slice _ _ _) rfl) ?_
 refine qE ?_
 refine qE ?_
 refine qC rfl ?_
 refine qA (qF (v := .int .i64 _) rfl) ?_
 refine qT ?_
 refine goes_pub 13 rfl ?_
 intro g9 G9 P9
 refine goes_pub 14 rfl ?_
 intro g10 G10 P10
 refine goes_pub 15 rfl ?_
 intro g11 G11 P11
 refine goes_pub 16 rfl ?_
 intro g12 G12 P12
 refine goes_pub 18 rfl ?_
 intro g13 G13 P13
 refine goes_pub 19 rfl ?_
 intro g14 G14 P14
 refine goes_pub 20 rfl ?_
 intro g15 G15 P15
 refine wE [_, _, _, _, _, _, _, _, _, _, _, _, _, _, _, _, _, _, _, _, _, _] rfl ?_
 refine xp_unroll ?_
 refine qE ?_
 refine qE ?_
 refine qC rfl ?_
 refine qA (qD (v := .int .i64 _) rfl) ?_
 refine qA (qD (v := .slice _ _ _) rfl) ?_
 refine qA (wP rfl rfl) ?_
 refine qA (qJ (v := .bool _) rfl) ?_
 refine wY rfl (rfl) ?_
 refine qP ?_
 refine qE ?_
 refine qT ?_
 refine qE ?_
 refine xp_dw [] rfl rfl rfl ?_
 refine qO (i := 1) rfl (by decide +kernel) (qD (v := .slice _ _ _) rfl) ?_
 refine qO (i := 2) rfl (by decide +kernel) (qD (v := .int .i64 _) rfl) ?_
 refine qO (i := 3) rfl (by decide +kernel) (zJ (m := 2) rfl rfl rfl rfl (by decide) (by decide)) ?_
 refine wQ (i := 4) rfl (by decide +kernel) ?_
 refine wH 17 (vs := [.slice _ _ _, .slice _ _ _]) rfl rfl rfl rfl rfl ?_
 refine dw_eff (i := 0) rfl (by decide +kernel) ?_
 refine qV (caps := []) (vs := []) rfl rfl rfl (machine_ok g15) ?_
 rintro _ h15 E15 ⟨AB15, AQ15, AL15, AW15, cB15, cQ15, cL15, cW15, rfl, RM15⟩
 refine ⟨ext_wlm E15 _, ?_⟩
 refine dw_last (i := 5) rfl (by decide +kernel) (by decide +kernel) ?_
 refine qV (caps := []) (vs := [.agg #[.int .i64 _, .int .i64 _, .int .i64 _, .int .i64 _, .int .i64 _, .slice _ _ _, .slice _ _ _, .slice _ _ _, .slice _ _ _], .agg #[.slice _ _ _, .slice _ _ _]]) rfl rfl rfl ((turns_c rfl ⟨[0], []⟩ [6, 0, 0] (by decide) (by decide) (by decide +kernel) (by decide +kernel) _ _ _ _ _ _ _ _ _ _ _ _ h15 (RM15.ext (Ext.refl _)) ⟨rowI [0] ((zL (zL (zL (zL (zL (zL G10 G11) G12) G13) G14) G15) E15) _ _ P9), row_nil _ _⟩)) ?_
 rintro _ h16 E16 ⟨A15, c15, rfl, R15⟩
 refine qO (i := 6) rfl (by decide +kernel) (qD (v := .tuple #[.slice _ _ _, .int .i64 _]) rfl) ?_
 refine qO (i := 7) rfl (by decide +kernel) (qJ (v := .slice _ _ _) rfl) ?_
 refine qO (i := 8) rfl (by decide +kernel) (qJ (v := .int .i64 _) rfl) ?_
 refine qO (i := 9) rfl (by decide +kernel) (qF (v := .slice _ _ _) rfl) ?_
 refine qO (i := 10) rfl (by decide +kernel) (qF (v := .int .i64 _) rfl) ?_
 refine dw_end rfl ?_
 refine qE ?_
 refine qC rfl ?_
 refine qA (qD (v := .int .i64 _) rfl) ?_
 refine qA (qJ (v := .bool _) rfl) ?_
 refine qA (qD (v := .bool _) rfl) ?_
 refine qG rfl rfl ?_
 refine qA (qD (v := .slice _ _ _) rfl) ?_
 refine qG rfl rfl ?_
 refine qA (qD (v := .slice _ _ _) rfl) ?_
 refine qG rfl rfl ?_
 refine qA (qD (v := .int .i64 _) rfl) ?_
 refine qG rfl rfl ?_
 refine qA (zJ (m := 1) rfl rfl rfl rfl (by decide) (by decide)) ?_
 refine qG rfl rfl ?_
 refine qN 21 (v := .slice _ _ _) rfl rfl rfl rfl ?_
 refine qG rfl rfl ?_
 refine qV (caps := []) (vs := [.slice _ _ _, .slice _ _ _]) rfl rfl rfl ((sameI_c [6, 0, 0] (by decide) _ _ _ _ h16 (R15.ext (Ext.refl _)) (rowI [6, 0, 0] ((zL (zL (zL G14 G15) E15) E16) _ _ P13)))) ?_
 rintro _ h17 E17 rfl
 refine qG rfl rfl ?_
 refine qA (qJ (v := .bool _) rfl) ?_
 refine qA (wI rfl rfl (v := .bool _) rfl) ?_
 refine wO rfl (rfl) ?_
 refine qP ?_
 refine qC rfl ?_
 refine qA (qD (v := .int .i64 _) rfl) ?_
 refine qA (qX rfl (by omega)) ?_
 refine qA (qF (v := .int .i64 _) rfl) ?_
 refine zK ?_
 refine qE ?_
 refine qE ?_
 refine qC rfl ?_
 refine qA (qD (v := .int .i64 _) rfl) ?_
 refine qA (qD (v := .slice _ _ _) rfl) ?_
 refine qA (wP rfl rfl) ?_
 refine qA (qJ (v := .bool _) rfl) ?_
 refine wY rfl (rfl) ?_
 refine qP ?_
 refine qE ?_
 refine qT ?_
 refine qE ?_
 refine xp_dw [] rfl rfl rfl ?_
 refine qO (i := 1) rfl (by decide +kernel) (qD (v := .slice _ _ _) rfl) ?_
 refine qO (i := 2) rfl (by decide +kernel) (qD (v := .int .i64 _) rfl) ?_
 refine qO (i := 3) rfl (by decide +kernel) (zJ (m := 2) rfl rfl rfl rfl (by decide) (by decide)) ?_
 refine wQ (i := 4) rfl (by decide +kernel) ?_
 refine wH 17 (vs := [.slice _ _ _, .slice _ _ _]) rfl rfl rfl rfl rfl ?_
 refine dw_eff (i := 0) rfl (by decide +kernel) ?_
 refine qV (caps := []) (vs := []) rfl rfl rfl (machine_ok h17) ?_
 rintro _ h18 E18 ⟨AB18, AQ18, AL18, AW18, cB18, cQ18, cL18, cW18, rfl, RM18⟩
 refine ⟨ext_wlm E18 _, ?_⟩
 refine dw_last (i := 5) rfl (by decide +kernel) (by decide +kernel) ?_
 refine qV (caps := []) (vs := [.agg #[.int .i64 _, .int .i64 _, .int .i64 _, .int .i64 _, .int .i64 _, .slice _ _ _, .slice _ _ _, .slice _ _ _, .slice _ _ _], .agg #[.slice _ _ _, .slice _ _ _]]) rfl rfl rfl ((turns_c rfl ⟨[1], []⟩ [0, 6, 2] (by decide) (by decide) (by decide +kernel) (by decide +kernel) _ _ _ _ _ _ _ _ _ _ _ _ h18 (RM18.ext (Ext.refl _)) ⟨rowI [1] ((zL (zL (zL (zL (zL (zL (zL (zL G11 G12) G13) G14) G15) E15) E16) E17) E18) _ _ P10), row_nil _ _⟩)) ?_
 rintro _ h19 E19 ⟨A18, c18, rfl, R18⟩
 refine qO (i := 6) rfl (by decide +kernel) (qD (v := .tuple #[.slice _ _ _, .int .i64 _]) rfl) ?_
 refine qO (i := 7) rfl (by decide +kernel) (qJ (v := .slice _ _ _) rfl) ?_
 refine qO (i := 8) rfl (by decide +kernel) (qJ (v := .int .i64 _) rfl) ?_
 refine qO (i := 9) rfl (by decide +kernel) (qF (v := .slice _ _ _) rfl) ?_
 refine qO (i := 10) rfl (by decide +kernel) (qF (v := .int .i64 _) rfl) ?_
 refine dw_end rfl ?_
 refine qE ?_
 refine qC rfl ?_
 refine qA (qD (v := .int .i64 _) rfl) ?_
 refine qA (qJ (v := .bool _) rfl) ?_
 refine qA (qD (v := .bool _) rfl) ?_
 refine qG rfl rfl ?_
 refine qA (qD (v := .slice _ _ _) rfl) ?_
 refine qG rfl rfl ?_
 refine qA (qD (v := .slice _ _ _) rfl) ?_
 refine qG rfl rfl ?_
 refine qA (qD (v := .int .i64 _) rfl) ?_
 refine qG rfl rfl ?_
 refine qA (zJ (m := 1) rfl rfl rfl rfl (by decide) (by decide)) ?_
 refine qG rfl rfl ?_
 refine qN 21 (v := .slice _ _ _) rfl rfl rfl rfl ?_
 refine qG rfl rfl ?_
 refine qV (caps := []) (vs := [.slice _ _ _, .slice _ _ _]) rfl rfl rfl ((sameI_c [0, 6, 2] (by decide) _ _ _ _ h19 (R18.ext (Ext.refl _)) (rowI [0, 6, 2] ((zL (zL (zL (zL (zL G15 E15) E16) E17) E18) E19) _ _ P14)))) ?_
 rintro _ h20 E20 rfl
 refine qG rfl rfl ?_
 refine qA (qJ (v := .bool _) rfl) ?_
 refine qA (wI rfl rfl (v := .bool _) rfl) ?_
 refine wO rfl (rfl) ?_
 refine qP ?_
 refine qC rfl ?_
 refine qA (qD (v := .int .i64 _) rfl) ?_
 refine qA (qX rfl (by omega)) ?_
 refine qA (qF (v := .int .i64 _) rfl) ?_
 refine zK ?_
 refine qE ?_
 refine qE ?_
 refine qC rfl ?_
 refine qA (qD (v := .int .i64 _) rfl) ?_
 refine qA (qD (v := .slice _ _ _) rfl) ?_
 refine qA (wP rfl rfl) ?_
 refine qA (qJ (v := .bool _) rfl) ?_
 refine wY rfl (rfl) ?_
 refine qP ?_
 refine qE ?_
 refine qT ?_
 refine qE ?_
 refine xp_dw [] rfl rfl rfl ?_
 refine qO (i := 1) rfl (by decide +kernel) (qD (v := .slice _ _ _) rfl) ?_
 refine qO (i := 2) rfl (by decide +kernel) (qD (v := .int .i64 _) rfl) ?_
 refine qO (i := 3) rfl (by decide +kernel) (zJ (m := 2) rfl rfl rfl rfl (by decide) (by decide)) ?_
 refine wQ (i := 4) rfl (by decide +kernel) ?_
 refine wH 17 (vs := [.slice _ _ _, .slice _ _ _]) rfl rfl rfl rfl rfl ?_
 refine dw_eff (i := 0) rfl (by decide +kernel) ?_
 refine qV (caps := []) (vs := []) rfl rfl rfl (machine_ok h20) ?_
 rintro _ h21 E21 ⟨AB21, AQ21, AL21, AW21, cB21, cQ21, cL21, cW21, rfl, RM21⟩
 refine ⟨ext_wlm E21 _, ?_⟩
 refine dw_last (i := 5) rfl (by decide +kernel) (by decide +kernel) ?_
 refine qV (caps := []) (vs := [.agg #[.int .i64 _, .int .i64 _, .int .i64 _, .int .i64 _, .int .i64 _, .slice _ _ _, .slice _ _ _, .slice _ _ _, .slice _ _ _], .agg #[.slice _ _ _, .slice _ _ _]]) rfl rfl rfl ((turns_c rfl ⟨[0], [0]⟩ [6, 0, 4] (by decide) (by decide) (by decide +kernel) (by decide +kernel) _ _ _ _ _ _ _ _ _ _ _ _ h21 (RM21.ext (Ext.refl _)) ⟨rowI [0] ((zL (zL (zL (zL (zL (zL (zL (zL (zL (zL G12 G13) G14) G15) E15) E16) E17) E18) E19) E20) E21) _ _ P11), rowI [0] ((zL (zL (zL (zL (zL (zL (zL (zL (zL G13 G14) G15) E15) E16) E17) E18) E19) E20) E21) _ _ P12)⟩)) ?_
 rintro _ h22 E22 ⟨A21, c21, rfl, R21⟩
 refine qO (i := 6) rfl (by decide +kernel) (qD (v := .tuple #[.slice _ _ _, .int .i64 _]) rfl) ?_
 refine qO (i := 7) rfl (by decide +kernel) (qJ (v := .slice _ _ _) rfl) ?_
 refine qO (i := 8) rfl (by decide +kernel) (qJ (v := .int .i64 _) rfl) ?_
 refine qO (i := 9) rfl (by decide +kernel) (qF (v := .slice _ _ _) rfl) ?_
 refine qO (i := 10) rfl (by decide +kernel) (qF (v := .int .i64 _) rfl) ?_
 refine dw_end rfl ?_
 refine qE ?_
 refine qC rfl ?_
 refine qA (qD (v := .int .i64 _) rfl) ?_
 refine qA (qJ (v := .bool _) rfl) ?_
 refine qA (qD (v := .bool _) rfl) ?_
 refine qG rfl rfl ?_
 refine qA (qD (v := .slice _ _ _) rfl) ?_
 refine qG rfl rfl ?_
 refine qA (qD (v := .slice _ _ _) rfl) ?_
 refine qG rfl rfl ?_
 refine qA (qD (v := .int .i64 _) rfl) ?_
 refine qG rfl rfl ?_
 refine qA (zJ (m := 1) rfl rfl rfl rfl (by decide) (by decide)) ?_
 refine qG rfl rfl ?_
 refine qN 21 (v := .slice _ _ _) rfl rfl rfl rfl ?_
 refine qG rfl rfl ?_
 refine qV (caps := []) (vs := [.slice _ _ _, .slice _ _ _]) rfl rfl rfl ((sameI_c [6, 0, 4] (by decide) _ _ _ _ h22 (R21.ext (Ext.refl _)) (rowI [6, 0, 4] ((zL (zL (zL (zL (zL (zL (zL E15 E16) E17) E18) E19) E20) E21) E22) _ _ P15)))) ?_
 rintro _ h23 E23 rfl
 refine qG rfl rfl ?_
 refine qA (qJ (v := .bool _) rfl) ?_
 refine qA (wI rfl rfl (v := .bool _) rfl) ?_
 refine wO rfl (rfl) ?_
 refine qP ?_
 refine qC rfl ?_
 refine qA (qD (v := .int .i64 _) rfl) ?_
 refine qA (qX rfl (by omega)) ?_
 refine qA (qF (v := .int .i64 _) rfl) ?_
 refine zK ?_
 refine qE ?_
 refine qE ?_
 refine qC rfl ?_
 refine qA (qD (v := .int .i64 _) rfl) ?_
 refine qA (qD (v := .slice _ _ _) rfl) ?_
 refine qA (wP rfl rfl) ?_
 refine qA (qJ (v := .bool _) rfl) ?_
 refine wO rfl (rfl) ?_
 refine zA ?_
 refine qE ?_
 refine qC rfl ?_
 refine qV (caps := []) (vs := []) rfl rfl rfl (machine_ok h23) ?_
 rintro _ h30 E30 ⟨AB30, AQ30, AL30, AW30, cB30, cQ30, cL30, cW30, rfl, RM30⟩
 refine qV (caps := []) (vs := [.agg #[.int .i64 _, .int .i64 _, .int .i64 _, .int .i64 _, .int .i64 _, .slice _ _ _, .slice _ _ _, .slice _ _ _, .slice _ _ _], .slice _ _ _, .int .i64 _, .int .i64 _]) rfl rfl rfl ((depth_c rfl [] 0 1 6 0 (by decide) (by decide +kernel) _ _ _ _ none _ _ _ _ 0 h30 (RM30.ext (Ext.refl _)) (row_nil _ _))) ?_
 rintro _ h31 E31 rfl
 refine qA (qD (v := .tuple #[.int .i64 _, .int .i64 _]) rfl) ?_
 refine qA (qJ (v := .int .i64 _) rfl) ?_
 refine qA (qJ (v := .int .i64 _) rfl) ?_
 refine qA (qF (v := .int .i64 _) rfl) ?_
 refine qA (qF (v := .int .i64 _) rfl) ?_
 refine qE ?_
 refine qC rfl ?_
 refine qV (caps := []) (vs := []) rfl rfl rfl (machine_ok h31) ?_
 rintro _ h32 E32 ⟨AB32, AQ32, AL32, AW32, cB32, cQ32, cL32, cW32, rfl, RM32⟩
 refine qV (caps := []) (vs := [.agg #[.int .i64 _, .int .i64 _, .int .i64 _, .int .i64 _, .int .i64 _, .slice _ _ _, .slice _ _ _, .slice _ _ _, .slice _ _ _], .slice _ _ _, .int .i64 _, .int .i64 _]) rfl rfl rfl ((depth_c rfl [] 0 0 4 0 (by decide) (by decide +kernel) _ _ _ _ none _ _ _ _ 0 h32 (RM32.ext (Ext.refl _)) (row_nil _ _))) ?_
 rintro _ h33 E33 rfl
 refine qA (qD (v := .tuple #[.int .i64 _, .int .i64 _]) rfl) ?_
 refine qA (qJ (v := .int .i64 _) rfl) ?_
 refine qA (qJ (v := .int .i64 _) rfl) ?_
 refine qA (qF (v := .int .i64 _) rfl) ?_
 refine qA (qF (v := .int .i64 _) rfl) ?_
 refine qE ?_
 refine qC rfl ?_
 refine qV (caps := []) (vs := []) rfl rfl rfl (machine_ok h33) ?_
 rintro _ h34 E34 ⟨AB34, AQ34, AL34, AW34, cB34, cQ34, cL34, cW34, rfl, RM34⟩
 refine qK (zc := [_]) (vs := [(0, .int .i64 _)]) (cs := [_]) rfl rfl rfl rfl rfl rfl rfl fun b132 hb132 => ?_
 refine qH [_, _, _, _, _, _, _, _, _, _, _, _, _, _, _, _, _, _, _, _, _, _, _] rfl ?_
 refine wp_pub 22 rfl rfl ?_
 intro g16 G16 P16
 refine qH [_, _, _, _, _, _, _, _, _, _, _, _, _, _, _, _, _, _, _, _, _, _, _] rfl ?_
 refine qH [_, _, _, _, _, _, _, _, _, _, _, _, _, _, _, _, _, _, _, _, _, _, _] rfl ?_
 refine qV (caps := []) (vs := [.agg #[.int .i64 _, .int .i64 _, .int .i64 _, .int .i64 _, .int .i64 _, .slice _ _ _, .slice _ _ _, .slice _ _ _, .slice _ _ _], .slice _ _ _, .int .i64 _, .int .i64 _]) rfl rfl rfl ((depth_c rfl [0] 0 2 5 0 (by decide) (by decide +kernel) _ _ _ _ _ _ _ _ _ _ g16 (RM34.ext G16) (rowI [0] ((Ext.refl _) _ _ P16)))) ?_
 rintro _ h35 E35 rfl
 refine qA (qD (v := .tuple #[.int .i64 _, .int .i64 _]) rfl) ?_
 refine qA (qJ (v := .int .i64 _) rfl) ?_
 refine qA (qJ (v := .int .i64 _) rfl) ?_
 refine qA (qF (v := .int .i64 _) rfl) ?_
 refine qA (qF (v := .int .i64 _) rfl) ?_
 refine qE ?_
 refine qC rfl ?_
 refine qV (caps := []) (vs := []) rfl rfl rfl (machine_ok h35) ?_
 rintro _ h36 E36 ⟨AB36, AQ36, AL36, AW36, cB36, cQ36, cL36, cW36, rfl, RM36⟩
 refine qV (caps := []) (vs := [.agg #[.int .i64 _, .int .i64 _, .int .i64 _, .int .i64 _, .int .i64 _, .slice _ _ _, .slice _ _ _, .slice _ _ _, .slice _ _ _], .slice _ _ _, .int .i64 _, .int .i64 _]) rfl rfl rfl ((depth_c rfl [] 1 2 0 11 (by decide) (by decide +kernel) _ _ _ _ none _ _ _ _ 0 h36 (RM36.ext (Ext.refl _)) (row_nil _ _))) ?_
 rintro _ h37 E37 rfl
 refine qA (qD (v := .tuple #[.int .i64 _, .int .i64 _]) rfl) ?_
 refine qA (qJ (v := .int .i64 _) rfl) ?_
 refine qA (qJ (v := .int .i64 _) rfl) ?_
 refine qA (qF (v := .int .i64 _) rfl) ?_
 refine qA (qF (v := .int .i64 _) rfl) ?_
 refine qE ?_
 refine qC rfl ?_
 refine qV (caps := []) (vs := []) rfl rfl rfl (machine_ok h37) ?_
 rintro _ h38 E38 ⟨AB38, AQ38, AL38, AW38, cB38, cQ38, cL38, cW38, rfl, RM38⟩
 refine qK (zc := [_]) (vs := [(0, .int .i64 _), (1, .int .i64 _)]) (cs := [_, _]) rfl rfl rfl rfl rfl rfl rfl fun b143 hb143 => ?_
 refine qH [_, _, _, _, _, _, _, _, _, _, _, _, _, _, _, _, _, _, _, _, _, _, _, _] rfl ?_
 refine wp_pub 23 rfl rfl ?_
 intro g17 G17 P17
 refine qH [_, _, _, _, _, _, _, _, _, _, _, _, _, _, _, _, _, _, _, _, _, _, _, _] rfl ?_
 refine qH [_, _, _, _, _, _, _, _, _, _, _, _, _, _, _, _, _, _, _, _, _, _, _, _] rfl ?_
 refine qV (caps := []) (vs := [.slice _ _ _]) rfl rfl rfl (pressed_ok [0, 1] _ _ g17) ?_
 rintro _ h39 E39 rfl
 refine qV (caps := []) (vs := [.agg #[.int .i64 _, .int .i64 _, .int .i64 _, .int .i64 _, .int .i64 _, .slice _ _ _, .slice _ _ _, .slice _ _ _, .slice _ _ _], .agg #[.slice _ _ _, .slice _ _ _]]) rfl rfl rfl ((sounds_c rfl ⟨[0, 1], []⟩ [0, 1] (by decide) (by decide) (by decide +kernel) (by decide +kernel) _ _ _ _ _ _ _ _ _ _ _ _ h39 (RM38.ext (zL G17 E39)) ⟨rowI [0, 1] (E39 _ _ P17), row_nil _ _⟩)) ?_
 rintro _ h40 E40 ⟨AS, cS, rfl, RS⟩
 refine qA (qD (v := .tuple #[.slice _ _ _, .int .i64 _]) rfl) ?_
 refine qA (qJ (v := .slice _ _ _) rfl) ?_
 refine qA (qJ (v := .int .i64 _) rfl) ?_
 refine qA (qF (v := .slice _ _ _) rfl) ?_
 refine qA (qF (v := .int .i64 _) rfl) ?_
 refine qE ?_
 refine qC rfl ?_
 refine qV (caps := []) (vs := []) rfl rfl rfl (machine_ok h40) ?_
 rintro _ h41 E41 ⟨AB41, AQ41, AL41, AW41, cB41, cQ41, cL41, cW41, rfl, RM41⟩
 refine qV (caps := []) (vs := [.agg #[.int .i64 _, .int .i64 _, .int .i64 _, .int .i64 _, .int .i64 _, .slice _ _ _, .slice _ _ _, .slice _ _ _, .slice _ _ _], .slice _ _ _]) rfl rfl rfl ((chart_c rfl [[0, 1], [1]] (by decide +kernel) (by decide +kernel) _ _ _ _ _ _ _ _ h41 (RM41.ext (Ext.refl _)))) ?_
 rintro _ h42 E42 ⟨AC, cC, csC, rfl, RC, LC⟩
 refine qA (qD (v := .tuple #[.slice _ _ _, .int .i64 _]) rfl) ?_
 refine qA (qJ (v := .slice _ _ _) rfl) ?_
 refine qA (qJ (v := .int .i64 _) rfl) ?_
 refine qA (qF (v := .slice _ _ _) rfl) ?_
 refine qA (qF (v := .int .i64 _) rfl) ?_
 refine qE ?_
 refine qE ?_
 refine qC rfl ?_
 refine qA (qD (v := .int .i64 _) rfl) ?_
 refine qA (qJ (v := .bool _) rfl) ?_
 refine qA (qD (v := .bool _) rfl) ?_
 refine qG rfl rfl ?_
 refine qA (qD (v := .int .i64 _) rfl) ?_
 refine qG rfl rfl ?_
 refine qA (qJ (v := .bool _) rfl) ?_
 refine qA (wI rfl rfl (v := .bool _) rfl) ?_
 refine qA (qD (v := .bool _) rfl) ?_
 refine qG rfl rfl ?_
 refine qA (qD (v := .int .i64 _) rfl) ?_
 refine qG rfl rfl ?_
 refine qA (qJ (v := .bool _) rfl) ?_
 refine qA (wI rfl rfl (v := .bool _) rfl) ?_
 refine qA (qD (v := .bool _) rfl) ?_
 refine qG rfl rfl ?_
 refine qA (qD (v := .int .i64 _) rfl) ?_
 refine qG rfl rfl ?_
 refine qA (qJ (v := .bool _) rfl) ?_
 refine qA (wI rfl rfl (v := .bool _) rfl) ?_
 refine qA (qD (v := .bool _) rfl) ?_
 refine qG rfl rfl ?_
 refine qA (qD (v := .int .i64 _) rfl) ?_
 refine qG rfl rfl ?_
 refine qA (qJ (v := .bool _) rfl) ?_
 refine qA (wI rfl rfl (v := .bool _) rfl) ?_
 refine qA (qD (v := .bool _) rfl) ?_
 refine qG rfl rfl ?_
 refine qA (qD (v := .int .i64 _) rfl) ?_
 refine qG rfl rfl ?_
 refine qA (qJ (v := .bool _) rfl) ?_
 refine qA (wI rfl rfl (v := .bool _) rfl) ?_
 refine qA (qD (v := .bool _) rfl) ?_
 refine qG rfl rfl ?_
 refine qA (qD (v := .int .i64 _) rfl) ?_
 refine qG rfl rfl ?_
 refine qA (qJ (v := .bool _) rfl) ?_
 refine qA (wI rfl rfl (v := .bool _) rfl) ?_
 refine qA (qD (v := .bool _) rfl) ?_
 refine qG rfl rfl ?_
 refine qA (qD (v := .int .i64 _) rfl) ?_
 refine qG rfl rfl ?_
 refine qA (qJ (v := .bool _) rfl) ?_
 refine qA (wI rfl rfl (v := .bool _) rfl) ?_
 refine qA (qD (v := .bool _) rfl) ?_
 refine qG rfl rfl ?_
 refine qA (qD (v := .int .i64 _) rfl) ?_
 refine qG rfl rfl ?_
 refine qA (qJ (v := .bool _) rfl) ?_
 refine qA (wI rfl rfl (v := .bool _) rfl) ?_
 refine qA (qD (v := .bool _) rfl) ?_
 refine qG rfl rfl ?_
 refine qA (qD (v := .slice _ _ _) rfl) ?_
 refine qG rfl rfl ?_
 refine qK (zc := [_]) (vs := [(0, .int .i64 _), (1, .int .i64 _)]) (cs := [_, _]) rfl rfl rfl rfl rfl rfl rfl fun b189 hb189 => ?_
 refine qH [_, _, _, _, _, _, _, _, _, _, _, _, _, _, _, _, _, _, _, _, _, _, _, _, _] rfl ?_
 refine qG rfl rfl ?_
 refine wp_pub 24 rfl rfl ?_
 intro g18 G18 P18
 refine qH [_, _, _, _, _, _, _, _, _, _, _, _, _, _, _, _, _, _, _, _, _, _, _, _, _] rfl ?_
 refine qH [_, _, _, _, _, _, _, _, _, _, _, _, _, _, _, _, _, _, _, _, _, _, _, _, _] rfl ?_
 refine qV (caps := []) (vs := [.slice _ _ _, .slice _ _ _]) rfl rfl rfl ((sameI_c [0, 1] (by decide) _ _ _ _ g18 (RS.ext (zL (zL E41 E42) G18)) (rowI [0, 1] ((Ext.refl _) _ _ P18)))) ?_
 rintro _ h43 E43 rfl
 refine qG rfl rfl ?_
 refine qA (qJ (v := .bool _) rfl) ?_
 refine qA (wI rfl rfl (v := .bool _) rfl) ?_
 refine qA (qD (v := .bool _) rfl) ?_
 refine qG rfl rfl ?_
 refine qA (qD (v := .slice _ _ _) rfl) ?_
 refine qG rfl rfl ?_
 refine qK (zc := [_]) (vs := [(0, .int .i64 _), (1, .int .i64 _)]) (cs := [_, _]) rfl rfl rfl rfl rfl rfl rfl fun b195 hb195 => ?_
 refine qH [_, _, _, _, _, _, _, _, _, _, _, _, _, _, _, _, _, _, _, _, _, _, _, _, _, _] rfl ?_
 refine qG rfl rfl ?_
 refine qK (zc := [_]) (vs := [(0, .int .i64 _)]) (cs := [_]) rfl rfl rfl rfl rfl rfl rfl fun b196 hb196 => ?_
 refine qH [_, _, _, _, _, _, _, _, _, _, _, _, _, _, _, _, _, _, _, _, _, _, _, _, _, _, _] rfl ?_
 refine qG rfl rfl ?_
 refine qK (zc := [_]) (vs := [(0, .slice _ _ _), (1, .slice _ _ _)]) (cs := [_, _]) rfl rfl rfl rfl rfl rfl rfl fun b197 hb197 => ?_
 refine qH [_, _, _, _, _, _, _, _, _, _, _, _, _, _, _, _, _, _, _, _, _, _, _, _, _, _, _, _] rfl ?_
 refine qG rfl rfl ?_
 refine wp_pub 25 rfl rfl ?_
 intro g19 G19 P19
 refine qH [_, _, _, _, _, _, _, _, _, _, _, _, _, _, _, _, _, _, _, _, _, _, _, _, _, _, _, _] rfl ?_
 refine wp_pub 26 rfl rfl ?_
 intro g20 G20 P20
 refine qH [_, _, _, _, _, _, _, _, _, _, _, _, _, _, _, _, _, _, _, _, _, _, _, _, _, _, _, _] rfl ?_
 refine wp_pub 27 rfl rfl ?_
 intro g21 G21 P21
 refine qH [_, _, _, _, _, _, _, _, _, _, _, _, _, _, _, _, _, _, _, _, _, _, _, _, _, _, _, _] rfl ?_
 refine qH [_, _, _, _, _, _, _, _, _, _, _, _, _, _, _, _, _, _, _, _, _, _, _, _, _, _, _, _] rfl ?_
 refine qV (caps := []) (vs := [.slice _ _ _, .slice _ _ _]) rfl rfl rfl ((sameL_c [[0, 1], [1]] (by decide) (by decide) _ _ _ _ _ _ g21 (RC.ext (zL (zL (zL (zL G18 E43) G19) G20) G21)) (LC.ext TL.mono (zL (zL (zL (zL G18 E43) G19) G20) G21)) (rowX2 ((Ext.refl _) _ _ P21)) (els2 (tl1 2 (rowI [0, 1] ((zL G20 G21) _ _ P19))) (tl1 1 (rowI [1] (G21 _ _ P20)))))) ?_
 rintro _ h44 E44 rfl
 refine qG rfl rfl ?_
 refine qA (qJ (v := .bool _) rfl) ?_
 refine qA (wI rfl rfl (v := .bool _) rfl) ?_
 refine wO rfl (rfl) ?_
 refine qP ?_
 refine qE ?_
 refine qC rfl ?_
 refine qK (zc := [_]) (vs := [(0, .int .i64 _), (1, .int .i64 _)]) (cs := [_, _]) rfl rfl rfl rfl rfl rfl rfl fun b201 hb201 => ?_
 refine qH [_, _, _, _, _, _, _, _, _, _, _, _, _, _, _, _, _, _, _, _, _, _, _, _, _, _, _, _, _] rfl ?_
 refine qK (zc := [_]) (vs := [(0, .int .i64 _)]) (cs := [_]) rfl rfl rfl rfl rfl rfl rfl fun b202 hb202 => ?_
 refine qH [_, _, _, _, _, _, _, _, _, _, _, _, _, _, _, _, _, _, _, _, _, _, _, _, _, _, _, _, _, _] rfl ?_
 refine qK (zc := [_]) (vs := [(0, .slice _ _ _), (1, .slice _ _ _), (2, .slice _ _ _)]) (cs := [_, _, _]) rfl rfl rfl rfl rfl rfl rfl fun b203 hb203 => ?_
 refine qH [_, _, _, _, _, _, _, _, _, _, _, _, _, _, _, _, _, _, _, _, _, _, _, _, _, _, _, _, _, _, _] rfl ?_
 refine qK (zc := [_]) (vs := [(0, .int .i64 _)]) (cs := [_]) rfl rfl rfl rfl rfl rfl rfl fun b204 hb204 => ?_
 refine qH [_, _, _, _, _, _, _, _, _, _, _, _, _, _, _, _, _, _, _, _, _, _, _, _, _, _, _, _, _, _, _, _] rfl ?_
 refine qK (zc := [_]) (vs := [(0, .int .i64 _)]) (cs := [_]) rfl rfl rfl rfl rfl rfl rfl fun b205 hb205 => ?_
 refine qH [_, _, _, _, _, _, _, _, _, _, _, _, _, _, _, _, _, _, _, _, _, _, _, _, _, _, _, _, _, _, _, _, _] rfl ?_
 refine qK (zc := [_]) (vs := [(0, .slice _ _ _), (1, .slice _ _ _), (2, .slice _ _ _)]) (cs := [_, _, _]) rfl rfl rfl rfl rfl rfl rfl fun b206 hb206 => ?_
 refine qH [_, _, _, _, _, _, _, _, _, _, _, _, _, _, _, _, _, _, _, _, _, _, _, _, _, _, _, _, _, _, _, _, _, _] rfl ?_
 refine qA (qF (v := .slice _ _ _) rfl) ?_
 refine qA (qF (v := .slice _ _ _) rfl) ?_
 refine qE ?_
 refine qE ?_
 refine qC rfl ?_
 refine qA (qF (v := .int .i64 _) rfl) ?_
 refine qT ?_
 refine goes_pub 28 rfl ?_
 intro g22 G22 P22
 refine goes_pub 29 rfl ?_
 intro g23 G23 P23
 refine goes_pub 31 rfl ?_
 intro g24 G24 P24
 refine goes_pub 32 rfl ?_
 intro g25 G25 P25
 refine wE [_, _, _, _, _, _, _, _, _, _, _, _, _, _, _, _, _, _, _, _, _, _, _, _, _, _, _, _, _, _, _, _, _, _] rfl ?_
 refine xp_unroll ?_
 refine qE ?_
 refine qE ?_
 refine qC rfl ?_
 refine qA (qD (v := .int .i64 _) rfl) ?_
 refine qA (qD (v := .slice _ _ _) rfl) ?_
 refine qA (wP rfl rfl) ?_
 refine qA (qJ (v := .bool _) rfl) ?_
 refine wY rfl (rfl) ?_
 refine qP ?_
 refine qE ?_
 refine qT ?_
 refine qE ?_
 refine xp_dw [] rfl rfl rfl ?_
 refine qO (i := 1) rfl (by decide +kernel) (qD (v := .slice _ _ _) rfl) ?_
 refine qO (i := 2) rfl (by decide +kernel) (qD (v := .int .i64 _) rfl) ?_
 refine qO (i := 3) rfl (by decide +kernel) (zJ (m := 1) rfl rfl rfl rfl (by decide) (by decide)) ?_
 refine wQ (i := 4) rfl (by decide +kernel) ?_
 refine qN 30 (v := .slice _ _ _) rfl rfl rfl rfl ?_
 refine dw_eff (i := 0) rfl (by decide +kernel) ?_
 refine qV (caps := []) (vs := []) rfl rfl rfl (machine_ok g25) ?_
 rintro _ h45 E45 ⟨AB45, AQ45, AL45, AW45, cB45, cQ45, cL45, cW45, rfl, RM45⟩
 refine ⟨ext_wlm E45 _, ?_⟩
 refine dw_last (i := 5) rfl (by decide +kernel) (by decide +kernel) ?_
 refine qV (caps := []) (vs := [.agg #[.int .i64 _, .int .i64 _, .int .i64 _, .int .i64 _, .int .i64 _, .slice _ _ _, .slice _ _ _, .slice _ _ _, .slice _ _ _], .slice _ _ _, .slice _ _ _]) rfl rfl rfl ((chord_c rfl [0, 1] [0] 0 (by decide) (by decide +kernel) (by decide +kernel) _ _ _ _ _ _ _ _ _ _ h45 (RM45.ext (Ext.refl _)) (rowI [0, 1] ((zL (zL (zL G23 G24) G25) E45) _ _ P22)))) ?_
 rintro _ h46 E46 ⟨AD45, cD45, rfl, RD45⟩
 refine qO (i := 6) rfl (by decide +kernel) (qD (v := .tuple #[.slice _ _ _, .int .i64 _]) rfl) ?_
 refine qO (i := 7) rfl (by decide +kernel) (qJ (v := .slice _ _ _) rfl) ?_
 refine qO (i := 8) rfl (by decide +kernel) (qJ (v := .int .i64 _) rfl) ?_
 refine qO (i := 9) rfl (by decide +kernel) (qF (v := .slice _ _ _) rfl) ?_
 refine qO (i := 10) rfl (by decide +kernel) (qF (v := .int .i64 _) rfl) ?_
 refine dw_end rfl ?_
 refine qE ?_
 refine qC rfl ?_
 refine qA (qD (v := .int .i64 _) rfl) ?_
 refine qA (qJ (v := .bool _) rfl) ?_
 refine qA (qD (v := .bool _) rfl) ?_
 refine qG rfl rfl ?_
 refine qA (qD (v := .slice _ _ _) rfl) ?_
 refine qG rfl rfl ?_
 refine qA (qD (v := .slice _ _ _) rfl) ?_
 refine qG rfl rfl ?_
 refine qA (qD (v := .int .i64 _) rfl) ?_
 refine qG rfl rfl ?_
 refine qA (zJ (m := 1) rfl rfl rfl rfl (by decide) (by decide)) ?_
 refine qG rfl rfl ?_
 refine qN 33 (v := .slice _ _ _) rfl rfl rfl rfl ?_
 refine qG rfl rfl ?_
 refine qV (caps := []) (vs := [.slice _ _ _, .slice _ _ _]) rfl rfl rfl ((sameI_c [0] (by decide) _ _ _ _ h46 (RD45.ext (Ext.refl _)) (rowI [0] ((zL (zL G25 E45) E46) _ _ P24)))) ?_
 rintro _ h47 E47 rfl
 refine qG rfl rfl ?_
 refine qA (qJ (v := .bool _) rfl) ?_
 refine qA (wI rfl rfl (v := .bool _) rfl) ?_
 refine wO rfl (rfl) ?_
 refine qP ?_
 refine qC rfl ?_
 refine qA (qD (v := .int .i64 _) rfl) ?_
 refine qA (qX rfl (by omega)) ?_
 refine qA (qF (v := .int .i64 _) rfl) ?_
 refine zK ?_
 refine qE ?_
 refine qE ?_
 refine qC rfl ?_
 refine qA (qD (v := .int .i64 _) rfl) ?_
 refine qA (qD (v := .slice _ _ _) rfl) ?_
 refine qA (wP rfl rfl) ?_
 refine qA (qJ (v := .bool _) rfl) ?_
 refine wY rfl (rfl) ?_
 refine qP ?_
 refine qE ?_
 refine qT ?_
 refine qE ?_
 refine xp_dw [] rfl rfl rfl ?_
 refine qO (i := 1) rfl (by decide +kernel) (qD (v := .slice _ _ _) rfl) ?_
 refine qO (i := 2) rfl (by decide +kernel) (qD (v := .int .i64 _) rfl) ?_
 refine qO (i := 3) rfl (by decide +kernel) (zJ (m := 1) rfl rfl rfl rfl (by decide) (by decide)) ?_
 refine wQ (i := 4) rfl (by decide +kernel) ?_
 refine qN 30 (v := .slice _ _ _) rfl rfl rfl rfl ?_
 refine dw_eff (i := 0) rfl (by decide +kernel) ?_
 refine qV (caps := []) (vs := []) rfl rfl rfl (machine_ok h47) ?_
 rintro _ h48 E48 ⟨AB48, AQ48, AL48, AW48, cB48, cQ48, cL48, cW48, rfl, RM48⟩
 refine ⟨ext_wlm E48 _, ?_⟩
 refine dw_last (i := 5) rfl (by decide +kernel) (by decide +kernel) ?_
 refine qV (caps := []) (vs := [.agg #[.int .i64 _, .int .i64 _, .int .i64 _, .int .i64 _, .int .i64 _, .slice _ _ _, .slice _ _ _, .slice _ _ _, .slice _ _ _], .slice _ _ _, .slice _ _ _]) rfl rfl rfl ((chord_c rfl [1] [1] 0 (by decide) (by decide +kernel) (by decide +kernel) _ _ _ _ _ _ _ _ _ _ h48 (RM48.ext (Ext.refl _)) (rowI [1] ((zL (zL (zL (zL (zL G24 G25) E45) E46) E47) E48) _ _ P23)))) ?_
 rintro _ h49 E49 ⟨AD48, cD48, rfl, RD48⟩
 refine qO (i := 6) rfl (by decide +kernel) (qD (v := .tuple #[.slice _ _ _, .int .i64 _]) rfl) ?_
 refine qO (i := 7) rfl (by decide +kernel) (qJ (v := .slice _ _ _) rfl) ?_
 refine qO (i := 8) rfl (by decide +kernel) (qJ (v := .int .i64 _) rfl) ?_
 refine qO (i := 9) rfl (by decide +kernel) (qF (v := .slice _ _ _) rfl) ?_
 refine qO (i := 10) rfl (by decide +kernel) (qF (v := .int .i64 _) rfl) ?_
 refine dw_end rfl ?_
 refine qE ?_
 refine qC rfl ?_
 refine qA (qD (v := .int .i64 _) rfl) ?_
 refine qA (qJ (v := .bool _) rfl) ?_
 refine qA (qD (v := .bool _) rfl) ?_
 refine qG rfl rfl ?_
 refine qA (qD (v := .slice _ _ _) rfl) ?_
 refine qG rfl rfl ?_
 refine qA (qD (v := .slice _ _ _) rfl) ?_
 refine qG rfl rfl ?_
 refine qA (qD (v := .int .i64 _) rfl) ?_
 refine qG rfl rfl ?_
 refine qA (zJ (m := 1) rfl rfl rfl rfl (by decide) (by decide)) ?_
 refine qG rfl rfl ?_
 refine qN 33 (v := .slice _ _ _) rfl rfl rfl rfl ?_
 refine qG rfl rfl ?_
 refine qV (caps := []) (vs := [.slice _ _ _, .slice _ _ _]) rfl rfl rfl ((sameI_c [1] (by decide) _ _ _ _ h49 (RD48.ext (Ext.refl _)) (rowI [1] ((zL (zL (zL (zL E45 E46) E47) E48) E49) _ _ P25)))) ?_
 rintro _ h50 E50 rfl
 refine qG rfl rfl ?_
 refine qA (qJ (v := .bool _) rfl) ?_
 refine qA (wI rfl rfl (v := .bool _) rfl) ?_
 refine wO rfl (rfl) ?_
 refine qP ?_
 refine qC rfl ?_
 refine qA (qD (v := .int .i64 _) rfl) ?_
 refine qA (qX rfl (by omega)) ?_
 refine qA (qF (v := .int .i64 _) rfl) ?_
 refine zK ?_
 refine qE ?_
 refine qE ?_
 refine qC rfl ?_
 refine qA (qD (v := .int .i64 _) rfl) ?_
 refine qA (qD (v := .slice _ _ _) rfl) ?_
 refine qA (wP rfl rfl) ?_
 refine qA (qJ (v := .bool _) rfl) ?_
 refine wY rfl (rfl) ?_
 refine qP ?_
 refine qE ?_
 refine qT ?_
 refine qE ?_
 refine xp_dw [] rfl rfl rfl ?_
 refine qO (i := 1) rfl (by decide +kernel) (qD (v := .slice _ _ _) rfl) ?_
 refine qO (i := 2) rfl (by decide +kernel) (qD (v := .int .i64 _) rfl) ?_
 refine qO (i := 3) rfl (by decide +kernel) (zJ (m := 1) rfl rfl rfl rfl (by decide) (by decide)) ?_
 refine wQ (i := 4) rfl (by decide +kernel) ?_
 refine qN 30 (v := .slice _ _ _) rfl rfl rfl rfl ?_
 refine dw_eff (i := 0) rfl (by decide +kernel) ?_
 refine qV (caps := []) (vs := []) rfl rfl rfl (machine_ok h50) ?_
 rintro _ h51 E51 ⟨AB51, AQ51, AL51, AW51, cB51, cQ51, cL51, cW51, rfl, RM51⟩
 refine ⟨ext_wlm E51 _, ?_⟩
 refine dw_last (i := 5) rfl (by decide +kernel) (by decide +kernel) ?_
 refine qV (caps := []) (vs := [.agg #[.int .i64 _, .int .i64 _, .int .i64 _, .int .i64 _, .int .i64 _, .slice _ _ _, .slice _ _ _, .slice _ _ _, .slice _ _ _], .slice _ _ _, .slice _ _ _]) rfl rfl rfl ((chord_c rfl [] [] 0 (by decide) (by decide +kernel) (by decide +kernel) _ _ _ _ _ _ _ _ _ _ h51 (RM51.ext (Ext.refl _)) (row_nil _ _))) ?_
 rintro _ h52 E52 ⟨AD51, cD51, rfl, RD51⟩
 refine qO (i := 6) rfl (by decide +kernel) (qD (v := .tuple #[.slice _ _ _, .int .i64 _]) rfl) ?_
 refine qO (i := 7) rfl (by decide +kernel) (qJ (v := .slice _ _ _) rfl) ?_
 refine qO (i := 8) rfl (by decide +kernel) (qJ (v := .int .i64 _) rfl) ?_
 refine qO (i := 9) rfl (by decide +kernel) (qF (v := .slice _ _ _) rfl) ?_
 refine qO (i := 10) rfl (by decide +kernel) (qF (v := .int .i64 _) rfl) ?_
 refine dw_end rfl ?_
 refine qE ?_
 refine qC rfl ?_
 refine qA (qD (v := .int .i64 _) rfl) ?_
 refine qA (qJ (v := .bool _) rfl) ?_
 refine qA (qD (v := .bool _) rfl) ?_
 refine qG rfl rfl ?_
 refine qA (qD (v := .slice _ _ _) rfl) ?_
 refine qG rfl rfl ?_
 refine qA (qD (v := .slice _ _ _) rfl) ?_
 refine qG rfl rfl ?_
 refine qA (qD (v := .int .i64 _) rfl) ?_
 refine qG rfl rfl ?_
 refine qA (zJ (m := 1) rfl rfl rfl rfl (by decide) (by decide)) ?_
 refine qG rfl rfl ?_
 refine qN 33 (v := .slice _ _ _) rfl rfl rfl rfl ?_
 refine qG rfl rfl ?_
 refine qV (caps := []) (vs := [.slice _ _ _, .slice _ _ _]) rfl rfl rfl ((sameI_c [] (by decide) _ _ _ _ h52 (RD51.ext (Ext.refl _)) (row_nil _ _))) ?_
 rintro _ h53 E53 rfl
 refine qG rfl rfl ?_
 refine qA (qJ (v := .bool _) rfl) ?_
 refine qA (wI rfl rfl (v := .bool _) rfl) ?_
 refine wO rfl (rfl) ?_
 refine qP ?_
 refine qC rfl ?_
 refine qA (qD (v := .int .i64 _) rfl) ?_
 refine qA (qX rfl (by omega)) ?_
 refine qA (qF (v := .int .i64 _) rfl) ?_
 refine zK ?_
 refine qE ?_
 refine qE ?_
 refine qC rfl ?_
 refine qA (qD (v := .int .i64 _) rfl) ?_
 refine qA (qD (v := .slice _ _ _) rfl) ?_
 refine qA (wP rfl rfl) ?_
 refine qA (qJ (v := .bool _) rfl) ?_
 refine wO rfl (rfl) ?_
 refine zA ?_
 refine qE ?_
 refine qC rfl ?_
 refine qV (caps := []) (vs := []) rfl rfl rfl (machine_ok h53) ?_
 rintro _ h54 E54 ⟨AB54, AQ54, AL54, AW54, cB54, cQ54, cL54, cW54, rfl, RM54⟩
 refine qK (zc := [_]) (vs := [(0, .int .i64 _)]) (cs := [_]) rfl rfl rfl rfl rfl rfl rfl fun b235 hb235 => ?_
 refine qH [_, _, _, _, _, _, _, _, _, _, _, _, _, _, _, _, _, _, _, _, _, _, _, _, _, _, _, _, _, _, _, _, _, _, _] rfl ?_
 refine wp_pub 34 rfl rfl ?_
 intro g26 G26 P26
 refine qH [_, _, _, _, _, _, _, _, _, _, _, _, _, _, _, _, _, _, _, _, _, _, _, _, _, _, _, _, _, _, _, _, _, _, _] rfl ?_
 refine qH [_, _, _, _, _, _, _, _, _, _, _, _, _, _, _, _, _, _, _, _, _, _, _, _, _, _, _, _, _, _, _, _, _, _, _] rfl ?_
 refine qV (caps := []) (vs := [.agg #[.int .i64 _, .int .i64 _, .int .i64 _, .int .i64 _, .int .i64 _, .slice _ _ _, .slice _ _ _, .slice _ _ _, .slice _ _ _], .slice _ _ _, .slice _ _ _]) rfl rfl rfl ((chord_c rfl [0] [] 11 (by decide) (by decide +kernel) (by decide +kernel) _ _ _ _ _ _ _ _ _ _ g26 (RM54.ext G26) (rowI [0] ((Ext.refl _) _ _ P26)))) ?_
 rintro _ h55 E55 ⟨AF, cF, rfl, RF⟩
 refine qA (qD (v := .tuple #[.slice _ _ _, .int .i64 _]) rfl) ?_
 refine qA (qJ (v := .slice _ _ _) rfl) ?_
 refine qA (qJ (v := .int .i64 _) rfl) ?_
 refine qA (qF (v := .int .i64 _) rfl) ?_
 refine qE ?_
 refine qC rfl ?_
 refine qV (caps := []) (vs := []) rfl rfl rfl (machine_ok h55) ?_
 rintro _ h56 E56 ⟨AB56, AQ56, AL56, AW56, cB56, cQ56, cL56, cW56, rfl, RM56⟩
 refine qA (wX (zc := [_, _]) (vs := [(0, .int .i64 _)]) (cs := [_, _]) rfl rfl rfl rfl rfl rfl) ?_
 refine qA (wX (zc := [_, _]) (vs := [(0, .int .i64 _)]) (cs := [_, _]) rfl rfl rfl rfl rfl rfl) ?_
 refine qA (wX (zc := [_, _]) (vs := [(0, .int .i64 _), (1, .int .i64 _)]) (cs := [_, _]) rfl rfl rfl rfl rfl rfl) ?_
 refine qA (wX (zc := [_, _]) (vs := [(0, .int .i64 _)]) (cs := [_, _]) rfl rfl rfl rfl rfl rfl) ?_
 refine qK (zc := [_, _]) (vs := [(0, .agg #[.int .i64 _, .int .i64 _]), (1, .agg #[.int .i64 _, .int .i64 _]), (2, .agg #[.int .i64 _, .int .i64 _]), (3, .agg #[.int .i64 _, .int .i64 _])]) (cs := [_, _, _, _, _, _, _, _]) rfl rfl rfl rfl rfl rfl rfl fun b245 hb245 => ?_
 refine qH [_, _, _, _, _, _, _, _, _, _, _, _, _, _, _, _, _, _, _, _, _, _, _, _, _, _, _, _, _, _, _, _, _, _, _, _] rfl ?_
 refine wp_pub 35 rfl rfl ?_
 intro g27 G27 P27
 refine qH [_, _, _, _, _, _, _, _, _, _, _, _, _, _, _, _, _, _, _, _, _, _, _, _, _, _, _, _, _, _, _, _, _, _, _, _] rfl ?_
 refine qH [_, _, _, _, _, _, _, _, _, _, _, _, _, _, _, _, _, _, _, _, _, _, _, _, _, _, _, _, _, _, _, _, _, _, _, _] rfl ?_
 refine qV (caps := []) (vs := [.agg #[.int .i64 _, .int .i64 _, .int .i64 _, .int .i64 _, .int .i64 _, .slice _ _ _, .slice _ _ _, .slice _ _ _, .slice _ _ _], .slice _ _ _]) rfl rfl rfl ((play_c rfl [⟨1, 0⟩, ⟨3, 0⟩, ⟨1, 1⟩, ⟨2, 0⟩] [[0, 1], [0, 1, 2], [0, 1, 2], [1]] 0 (by decide) (by decide +kernel) _ _ _ _ _ _ _ _ _ _ g27 (RM56.ext G27) (rowEv [⟨1, 0⟩, ⟨3, 0⟩, ⟨1, 1⟩, ⟨2, 0⟩] ((Ext.refl _) _ _ P27)))) ?_
 rintro _ h57 E57 ⟨AP, cP, csP, rfl, RP, LP⟩
 refine qA (qD (v := .tuple #[.slice _ _ _, .int .i64 _]) rfl) ?_
 refine qA (qJ (v := .slice _ _ _) rfl) ?_
 refine qA (qJ (v := .int .i64 _) rfl) ?_
 refine qA (qF (v := .slice _ _ _) rfl) ?_
 refine qA (qF (v := .int .i64 _) rfl) ?_
 refine qE ?_
 refine qC rfl ?_
 refine qV (caps := []) (vs := []) rfl rfl rfl (machine_ok h57) ?_
 rintro _ h58 E58 ⟨AB58, AQ58, AL58, AW58, cB58, cQ58, cL58, cW58, rfl, RM58⟩
 refine qA (wX (zc := [_, _]) (vs := [(0, .int .i64 _)]) (cs := [_, _]) rfl rfl rfl rfl rfl rfl) ?_
 refine qA (wX (zc := [_, _]) (vs := [(0, .int .i64 _)]) (cs := [_, _]) rfl rfl rfl rfl rfl rfl) ?_
 refine qK (zc := [_, _]) (vs := [(0, .agg #[.int .i64 _, .int .i64 _]), (1, .agg #[.int .i64 _, .int .i64 _])]) (cs := [_, _, _, _]) rfl rfl rfl rfl rfl rfl rfl fun b253 hb253 => ?_
 refine qH [_, _, _, _, _, _, _, _, _, _, _, _, _, _, _, _, _, _, _, _, _, _, _, _, _, _, _, _, _, _, _, _, _, _, _, _, _] rfl ?_
 refine wp_pub 36 rfl rfl ?_
 intro g28 G28 P28
 refine qH [_, _, _, _, _, _, _, _, _, _, _, _, _, _, _, _, _, _, _, _, _, _, _, _, _, _, _, _, _, _, _, _, _, _, _, _, _] rfl ?_
 refine qH [_, _, _, _, _, _, _, _, _, _, _, _, _, _, _, _, _, _, _, _, _, _, _, _, _, _, _, _, _, _, _, _, _, _, _, _, _] rfl ?_
 refine qV (caps := []) (vs := [.agg #[.int .i64 _, .int .i64 _, .int .i64 _, .int .i64 _, .int .i64 _, .slice _ _ _, .slice _ _ _, .slice _ _ _, .slice _ _ _], .slice _ _ _]) rfl rfl rfl ((play_c rfl [⟨1, 0⟩, ⟨1, 0⟩] [] 4 (by decide) (by decide +kernel) _ _ _ _ _ _ _ _ _ _ g28 (RM58.ext G28) (rowEv [⟨1, 0⟩, ⟨1, 0⟩] ((Ext.refl _) _ _ P28)))) ?_
 rintro _ h59 E59 ⟨AQ, cQ, csQ, rfl, RQ, LQ⟩
 refine qA (qD (v := .tuple #[.slice _ _ _, .int .i64 _]) rfl) ?_
 refine qA (qJ (v := .slice _ _ _) rfl) ?_
 refine qA (qJ (v := .int .i64 _) rfl) ?_
 refine qA (qF (v := .int .i64 _) rfl) ?_
 refine qE ?_
 refine qC rfl ?_
 refine wH 12 (vs := [.int .i64 _, .int .i64 _, .int .i64 _, .int .i64 _, .int .i64 _, .slice _ _ _, .slice _ _ _, .slice _ _ _, .slice _ _ _]) rfl rfl rfl rfl rfl ?_
 refine qV (caps := []) (vs := [.agg #[.int .i64 _, .int .i64 _, .int .i64 _, .int .i64 _, .int .i64 _, .slice _ _ _, .slice _ _ _, .slice _ _ _, .slice _ _ _]]) rfl rfl rfl ((write_c h59 (hP.ext (zL (zL (zL (zL (zL (zL (zL (zL (zL (zL (zL (zL (zL (zL (zL (zL (zL (zL (zL (zL (zL (zL (zL (zL (zL (zL (zL (zL (zL (zL (zL (zL (zL (zL (zL (zL (zL (zL (zL (zL (zL (zL (zL (zL (zL (zL (zL (zL (zL (zL (zL (zL (zL (zL (zL (zL (zL (zL (zL (zL (zL (zL (zL (zL (zL (zL (zL (zL (zL (zL (zL (zL (zL (zL (zL (zL (zL (zL (zL (zL E1 E2) E3) E4) E5) G1) G2) G3) G4) G5) G6) G7) G8) E6) E7) E8) E9) E10) E11) E12) E13) E14) G9) G10) G11) G12) G13) G14) G15) E15) E16) E17) E18) E19) E20) E21) E22) E23) E30) E31) E32) E33) E34) G16) E35) E36) E37) E38) G17) E39) E40) E41) E42) G18) E43) G19) G20) G21) E44) G22) G23) G24) G25) E45) E46) E47) E48) E49) E50) E51) E52) E53) E54) G26) E55) E56) G27) E57) E58) G28) E59)) _ _ _ _ _ _ _ _ (mr_bare (RM5.ext (zL (zL (zL (zL (zL (zL (zL (zL (zL (zL (zL (zL (zL (zL (zL (zL (zL (zL (zL (zL (zL (zL (zL (zL (zL (zL (zL (zL (zL (zL (zL (zL (zL (zL (zL (zL (zL (zL (zL (zL (zL (zL (zL (zL (zL (zL (zL (zL (zL (zL (zL (zL (zL (zL (zL (zL (zL (zL (zL (zL (zL (zL (zL (zL (zL (zL (zL (zL (zL (zL (zL (zL (zL (zL (zL G1 G2) G3) G4) G5) G6) G7) G8) E6) E7) E8) E9) E10) E11) E12) E13) E14) G9) G10) G11) G12) G13) G14) G15) E15) E16) E17) E18) E19) E20) E21) E22) E23) E30) E31) E32) E33) E34) G16) E35) E36) E37) E38) G17) E39) E40) E41) E42) G18) E43) G19) G20) G21) E44) G22) G23) G24) G25) E45) E46) E47) E48) E49) E50) E51) E52) E53) E54) G26) E55) E56) G27) E57) E58) G28) E59))))) ?_
 rintro _ h60 E60 rfl
 refine qA (qD (v := .tuple #[.string _, .int .i64 _]) rfl) ?_
 refine qA (qJ (v := .string _) rfl) ?_
 refine qA (qJ (v := .int .i64 _) rfl) ?_
 refine qA (qF (v := .string _) rfl) ?_
 refine qA (qF (v := .int .i64 _) rfl) ?_
 refine qE ?_
 refine qC rfl ?_
 refine qA (qD (v := .int .i64 _) rfl) ?_
 refine qA (qJ (v := .bool _) rfl) ?_
 refine qA (qD (v := .bool _) rfl) ?_
 refine qG rfl rfl ?_
 refine qA (qD (v := .int .i64 _) rfl) ?_
 refine qG rfl rfl ?_
 refine qA (qJ (v := .bool _) rfl) ?_
 refine qA (wV rfl rfl (v := .bool _) rfl) ?_
 refine qA (qD (v := .bool _) rfl) ?_
 refine qG rfl rfl ?_
 refine qA (qD (v := .int .i64 _) rfl) ?_
 refine qG rfl rfl ?_
 refine qA (qJ (v := .bool _) rfl) ?_
 refine qA (wV rfl rfl (v := .bool _) rfl) ?_
 refine qA (qD (v := .bool _) rfl) ?_
 refine qG rfl rfl ?_
 refine qA (qD (v := .int .i64 _) rfl) ?_
 refine qG rfl rfl ?_
 refine qA (qJ (v := .bool _) rfl) ?_
 refine qA (wV rfl rfl (v := .bool _) rfl) ?_
 refine qA (qD (v := .bool _) rfl) ?_
 refine qG rfl rfl ?_
 refine qA (qD (v := .slice _ _ _) rfl) ?_
 refine qG rfl rfl ?_
 refine qK (zc := [_]) (vs := [(0, .int .i64 _), (1, .int .i64 _)]) (cs := [_, _]) rfl rfl rfl rfl rfl rfl rfl fun b278 hb278 => ?_
 refine qH [_, _, _, _, _, _, _, _, _, _, _, _, _, _, _, _, _, _, _, _, _, _, _, _, _, _, _, _, _, _, _, _, _, _, _, _, _, _] rfl ?_
 refine qG rfl rfl ?_
 refine qK (zc := [_]) (vs := [(0, .int .i64 _), (1, .int .i64 _), (2, .int .i64 _)]) (cs := [_, _, _]) rfl rfl rfl rfl rfl rfl rfl fun b279 hb279 => ?_
 refine qH [_, _, _, _, _, _, _, _, _, _, _, _, _, _, _, _, _, _, _, _, _, _, _, _, _, _, _, _, _, _, _, _, _, _, _, _, _, _, _] rfl ?_
 refine qG rfl rfl ?_
 refine qK (zc := [_]) (vs := [(0, .int .i64 _), (1, .int .i64 _), (2, .int .i64 _)]) (cs := [_, _, _]) rfl rfl rfl rfl rfl rfl rfl fun b280 hb280 => ?_
 refine qH [_, _, _, _, _, _, _, _, _, _, _, _, _, _, _, _, _, _, _, _, _, _, _, _, _, _, _, _, _, _, _, _, _, _, _, _, _, _, _, _] rfl ?_
 refine qG rfl rfl ?_
 refine qK (zc := [_]) (vs := [(0, .int .i64 _)]) (cs := [_]) rfl rfl rfl rfl rfl rfl rfl fun b281 hb281 => ?_
 refine qH [_, _, _, _, _, _, _, _, _, _, _, _, _, _, _, _, _, _, _, _, _, _, _, _, _, _, _, _, _, _, _, _, _, _, _, _, _, _, _, _, _] rfl ?_
 refine qG rfl rfl ?_
 refine qK (zc := [_]) (vs := [(0, .slice _ _ _), (1, .slice _ _ _), (2, .slice _ _ _), (3, .slice _ _ _)]) (cs := [_, _, _, _]) rfl rfl rfl rfl rfl rfl rfl fun b282 hb282 => ?_
 refine qH [_, _, _, _, _, _, _, _, _, _, _, _, _, _, _, _, _, _, _, _, _, _, _, _, _, _, _, _, _, _, _, _, _, _, _, _, _, _, _, _, _, _] rfl ?_
 refine qG rfl rfl ?_
 refine wp_pub 37 rfl rfl ?_
 intro g29 G29 P29
 refine qH [_, _, _, _, _, _, _, _, _, _, _, _, _, _, _, _, _, _, _, _, _, _, _, _, _, _, _, _, _, _, _, _, _, _, _, _, _, _, _, _, _, _] rfl ?_
 refine wp_pub 38 rfl rfl ?_
 intro g30 G30 P30
 refine qH [_, _, _, _, _, _, _, _, _, _, _, _, _, _, _, _, _, _, _, _, _, _, _, _, _, _, _, _, _, _, _, _, _, _, _, _, _, _, _, _, _, _] rfl ?_
 refine wp_pub 39 rfl rfl ?_
 intro g31 G31 P31
 refine qH [_, _, _, _, _, _, _, _, _, _, _, _, _, _, _, _, _, _, _, _, _, _, _, _, _, _, _, _, _, _, _, _, _, _, _, _, _, _, _, _, _, _] rfl ?_
 refine wp_pub 40 rfl rfl ?_
 intro g32 G32 P32
 refine qH [_, _, _, _, _, _, _, _, _, _, _, _, _, _, _, _, _, _, _, _, _, _, _, _, _, _, _, _, _, _, _, _, _, _, _, _, _, _, _, _, _, _] rfl ?_
 refine wp_pub 41 rfl rfl ?_
 intro g33 G33 P33
 refine qH [_, _, _, _, _, _, _, _, _, _, _, _, _, _, _, _, _, _, _, _, _, _, _, _, _, _, _, _, _, _, _, _, _, _, _, _, _, _, _, _, _, _] rfl ?_
 refine qH [_, _, _, _, _, _, _, _, _, _, _, _, _, _, _, _, _, _, _, _, _, _, _, _, _, _, _, _, _, _, _, _, _, _, _, _, _, _, _, _, _, _] rfl ?_
 refine qV (caps := []) (vs := [.slice _ _ _, .slice _ _ _]) rfl rfl rfl ((sameL_c [[0, 1], [0, 1, 2], [0, 1, 2], [1]] (by decide) (by decide) _ _ _ _ _ _ g33 (RP.ext (zL (zL (zL (zL (zL (zL (zL (zL E58 G28) E59) E60) G29) G30) G31) G32) G33)) (LP.ext TL.mono (zL (zL (zL (zL (zL (zL (zL (zL E58 G28) E59) E60) G29) G30) G31) G32) G33)) (rowX4 ((Ext.refl _) _ _ P33)) (els4 (tl1 2 (rowI [0, 1] ((zL (zL (zL G30 G31) G32) G33) _ _ P29))) (tl1 3 (rowI [0, 1, 2] ((zL (zL G31 G32) G33) _ _ P30))) (tl1 3 (rowI [0, 1, 2] ((zL G32 G33) _ _ P31))) (tl1 1 (rowI [1] (G33 _ _ P32)))))) ?_
 rintro _ h61 E61 rfl
 refine qA (wV rfl rfl (v := .bool _) rfl) ?_
 refine qA (qD (v := .bool _) rfl) ?_
 refine qG rfl rfl ?_
 refine qA (qD (v := .string _) rfl) ?_
 refine qG rfl rfl ?_
 refine qA (pv_streq rfl rfl) ?_
 refine qA (wV rfl rfl (v := .bool _) rfl) ?_
 refine qA (qD (v := .bool _) rfl) ?_
 refine qG rfl rfl ?_
 refine qV (caps := []) (vs := []) rfl rfl rfl (explained_ok rfl h61) ?_
 rintro _ hz Ez rfl
 refine qA (wV rfl rfl (v := .bool _) rfl) ?_
 refine qA (qF (v := .bool _) rfl) ?_
 refine wD ?_
 exact ⟨rfl, fun V => (zL (zL (zL (zL (zL (zL (zL (zL (zL (zL (zL (zL (zL (zL (zL (zL (zL (zL (zL (zL (zL (zL (zL (zL (zL (zL (zL (zL (zL (zL (zL (zL (zL (zL (zL (zL (zL (zL (zL (zL (zL (zL (zL (zL (zL (zL (zL (zL (zL (zL (zL (zL (zL (zL (zL (zL (zL (zL (zL (zL (zL (zL (zL (zL (zL (zL (zL (zL (zL (zL (zL (zL (zL (zL (zL (zL (zL (zL (zL (zL (zL (zL (zL (zL (zL (zL (zL (zL (zL E1 E2) E3) E4) E5) G1) G2) G3) G4) G5) G6) G7) G8) E6) E7) E8) E9) E10) E11) E12) E13) E14) G9) G10) G11) G12) G13) G14) G15) E15) E16) E17) E18) E19) E20) E21) E22) E23) E30) E31) E32) E33) E34) G16) E35) E36) E37) E38) G17) E39) E40) E41) E42) G18) E43) G19) G20) G21) E44) G22) G23) G24) G25) E45) E46) E47) E48) E49) E50) E51) E52) E53) E54) G26) E55) E56) G27) E57) E58) G28) E59) E60) G29) G30) G31) G32) G33) E61) Ez) (qZ V)), rfl⟩
end
end Go.Proofs.YtmpahfdiebhdbaaDoor
namespace Go.HL
open Go Go.Conc
section
variable {H : Type} {enc : TypeId × Value → H}
theorem leaving_of_change_and {a : Assume} {C : Checked} {os : Os} {f : FuncId} {fn : Func} {s : ChangeSpec} {conds : List PathCond} {apart fresh handsOn again : Bool} {X : World → Array Value → Prop}
  (hX : ∀ (w w' : World) (args : Array Value), w.heap = w'.heap → X w args → X w' args)
  (own : ownKnob C.prog.godebug = none) (started : os.Started) (hfn : C.prog.funcs[f]? = some fn)
  (witness : ∃ (w : World) (tape : Tape) (i : Input), w.os = os ∧ (w.forCall tape i).Shaped C.prog ∧ i.vars = [] ∧ Input.okWide C.prog (w.forCall tape i) .any w.heap.size f i ∧
   ((s.pre enc C.prog fn conds apart (w.forCall tape i).memory i.args ∧ X (w.forCall tape i).memory i.args) ∧ sizedMet enc C.prog fn (OpenSpec.ofChange s) apart (w.forCall tape i).memory i.args) ∧ a.holds C.prog (lone (Frame.enter C.prog f i.args .normal) [] (w.forCall tape i)))
  (runs : ∀ (W : World) (base : Nat) (args : Array Value) (ds gs : List (DataW H)) (before : List MemPlace),
   (∀ (j : Nat) t v, fn.params[j]? = some t → args[j]? = some v → Value.okWide C.prog W .any base t v) →
   DataW.Whole enc C.prog fn.params.toList s.vars apart W args.toList ds gs before →
   conds.all (PathCond.test C.prog ⟨fn.params.toList, ds, s.plain.varTypes C.prog, gs⟩) = true → X W args →
   a.holds C.prog (lone (Frame.enter C.prog f args .normal) [] W) →
   ∃ M last o w' t', runNT C.prog (M + 1) (solo (G (Frame.enter C.prog f args .normal) []) W) #[] = (.ended o w', t') ∧ runN C.prog M (solo (G (Frame.enter C.prog f args .normal) []) W) = .next last ∧
    step C.prog last = .ended o w' ∧ Conc.Good C.prog (fun v W' => s.post enc C.prog fn apart fresh handsOn again W args v W') last o w' t') :
  ReturnsInLeavingWide a C os f .any (fun w args => (s.pre enc C.prog fn conds apart w args ∧ X w args) ∧ sizedMet enc C.prog fn (OpenSpec.ofChange s) apart w args) (s.post enc C.prog fn apart fresh handsOn again) := by
 refine returnsInLeavingWide_of_good own started witness ?_
 intro w tape i _ _ _ hok hpre hholds
 obtain ⟨_, _, _, fn', hfn', _, _, _, _, hval⟩ := hok
 have e : fn' = fn := Option.some.inj (hfn'.symm.trans hfn)
 subst e
 obtain ⟨⟨⟨ds, gs, before, hw, hc⟩, hx⟩, _⟩ := hpre
 have hw' := DataW.Whole.of_heap (w' := w.forCall tape i) (by rfl) hw
 obtain ⟨M, last, o, w', t', h1, h2, h3, h4⟩ := runs (w.forCall tape i) w.heap.size i.args ds gs before hval hw' hc (hX _ _ _ (by rfl) hx) hholds
 exact ⟨M, last, o, w', t', h1, h2, h3, h4.mono fun v hp => ChangeSpec.post_blind hp⟩
end
theorem tied_goes {p : Pinned} {s : OpenSpec} {c : OpenClaim} (kinds : List LaidKind) (tests : Bool) (har : Bool × String) (lk : Bool)
  (hc : c.holds p s) (hw : c.wfByText s = true) (htie : c.laidByTextAt .later p kinds tests)
  (hst : c.start = .entering) (hnb : c.noBlocks = false ∧ c.again = false) (hm : p.checked.prog.mainIs = some (har.1, har.2.toList)) (hn : (!har.1 && har.2.isEmpty && !lk) = false)
  (hl : ∀ f fn, p.checked.prog.funcNamed c.func = some f → p.checked.prog.funcs[f]? = some fn → lk = p.checked.prog.looks [] ∧ ∀ (j : Nat) t, fn.params[j]? = some t → p.checked.prog.wantsStandIn t = false)
  (hg : true = c.goesBy p.checked.prog) :
  Claim7.holds p (.plain s) { stood := { row := c, standIns := [], harness := har, looks := lk }, kinds := [], alts := [], goes := true, laidByText := true, laidKinds := kinds, laidTests := tests, laidLooks := .later } := by
 have h6 : Claim7.isSixth { stood := { row := c, standIns := [], harness := har, looks := lk }, kinds := [] } = false := by simpa [Claim7.isSixth] using hn
 exact ⟨Claim7.tied_new_at .later kinds tests (Claim7.new_of_sixth hc har lk hst hnb hm h6 hl) hw, fun D hD => (by cases hD), htie, (fun h => by cases h), hg⟩
end Go.HL
