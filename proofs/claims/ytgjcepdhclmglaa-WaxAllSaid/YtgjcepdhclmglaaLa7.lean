/- An own logic over the model, its walks and its plain laws, joined of parts L5. Conditions: as each theorem states. -/
import Derived.Test.YtgjcepdhclmglaaLa6
import Derived.Test.YtgjcepdhclmglaaLa5
set_option linter.all false
namespace Go.Proofs.Ytgjcepdhclmglaa
open Go Go.HL Go.Proofs Go.Wx Go.RowKit
variable [Lvl]
set_option maxRecDepth 100000
theorem rgSelfL (a : Rg) : pev Try.prog (Op.equalIn Op.maxDepth 41 (.agg (rgC a).toArray) (.agg (rgC a).toArray)) = some true := (rgEq a a).trans (by simp)
set_option maxHeartbeats 40000000 in
theorem all_calls (w : World) (l : List Int) (hl : l.length < 2 ^ 63) (A : Option Addr) (c : Nat) (R : Row (absH w.heap) 1 intC A l) : Calls Try.prog 3 #[.slice A l.length c] w (fun e w' => e = .returned (.bool true) ∧ Below w.heap.size w w') := by
 letI : Lvl := ⟨false, none, none⟩
 refine calls_body Try.func3 rfl Try.ntmps3 rfl Try.results3 rfl fun h hh => ?_
 rw [← hh] at R
 refine qF ?_
 refine qC rfl ?_
 refine qA (qE (v := .bool _) rfl) ?_
 refine qF ?_
 refine qC rfl ?_
 refine qA (qB (v := .slice _ _ _) rfl) ?_
 refine zL [] [] [] rfl rfl rfl ((NewPot_ok l hl A c h R)) ?_
 rintro _ h1 _ E1 ⟨b, x, rfl, rfl⟩
 refine qH [_] rfl ?_
 refine qA (qE (v := .pointer _) rfl) ?_
 refine qF ?_
 refine qC rfl ?_
 refine qA (qB (v := .pointer _) rfl) ?_
 refine zL [] [_] [] (vs := _) rfl rfl rfl ((SeasonOf_okM b x 3 2 2 (by omega) (by omega) (by omega) (by omega) h1)) ?_
 rintro _ h2 _ E2 ⟨x2, s, ht, dt, fs, _, _, ⟨p5, A5, n5, c5⟩, a7, rfl, rfl, T, r5, r7, ⟨A0, c0, A1, c1, rfl, RH, RD⟩, HA, hc, DA, dc, FA, fc, rfl, R1, R2, R3⟩
 refine qH [_, _, _] rfl ?_
 have C : CheckS s := SeasonT.checkS T (by omega) (by omega) (by omega)
 have h6 := C.w6
 have h1w := C.w1
 have hdl := C.dl
 have j3 := C.j3
 have rr5 := C.r5
 have hn7 : a7.n = s.reports.length := by have := AccR.len r7; rw [wS (m := 3) (fun _ _ => rfl)] at this; omega
 dsimp only
 refine qA (qB (v := .tuple #[.agg #[.slice _ _ _, .slice _ _ _, .slice _ _ _, .slice _ _ _], .agg #[.slice _ _ _, .slice _ _ _, .slice _ _ _]]) rfl) ?_
 refine qA (qK (v := .agg #[.slice _ _ _, .slice _ _ _, .slice _ _ _, .slice _ _ _]) rfl) ?_
 refine qA (qK (v := .agg #[.slice _ _ _, .slice _ _ _, .slice _ _ _]) rfl) ?_
 refine wO (cs := [_, _, _, _]) rfl rfl fun b4 hb4 => ?_
 refine qH [_, _, _, _] rfl ?_
 refine wO (cs := [_, _, _]) rfl rfl fun b5 hb5 => ?_
 refine qH [_, _, _, _, _] rfl ?_
 refine qJ 3 (v := .agg #[.slice _ _ _, .slice _ _ _, .slice _ _ _, .slice _ _ _]) (vs := [_, _, _, _]) (c' := [_, _, _, _]) rfl rfl rfl rfl rfl rfl rfl rfl rfl ?_
 refine qH [_, _, _, _, _] rfl ?_
 refine qJ 4 (v := .agg #[.slice _ _ _, .slice _ _ _, .slice _ _ _]) (vs := [_, _, _]) (c' := [_, _, _]) rfl rfl rfl rfl rfl rfl rfl rfl rfl ?_
 refine qH [_, _, _, _, _] rfl ?_
 refine goes_pubO 1 rfl ?_
 intro g5 G5 P5
 refine qP [_, _, _, _, _] rfl ?_
 refine xp_cutB [6, 71, 72, 73, 74, 75, 76, 77, 78, 79, 80, 81, 82, 83, 84, 85, 86, 87, 88, 89] 5 (α := Option (Nat × Obj) × List Seen × Nat) (fun ⟨z, rs, y⟩ => []) (fun ⟨z, rs, y⟩ L => (L.set 0 (some (b, .cells #[.int .u64 (y : Int)] 67 (0, 0)))).set 2 (z)) (fun ⟨z, rs, y⟩ h_z => rs.length = s.reports.length ∧ (∀ r ∈ rs, checkSeenM s r = 0) ∧ AccR 36 3 (rs.flatMap seenC) ⟨z, a7.A, a7.n, a7.c⟩) ?_ ?_
 ·skip
  by_cases hr0 : s.reports = []
  ·skip
   have hr0' : decide (((s.reports.length : Nat) : Int) > 0) = false := by rw [hr0]; rfl
   refine qF ?_
   refine qC rfl ?_
   refine qA (qG rfl rfl rfl rfl 3 rfl) ?_
   refine qI 3 (v := .slice _ _ _) rfl rfl rfl rfl ?_
   refine qA (wV rfl rfl) ?_
   refine qA (qE (v := .int .i64 _) rfl) ?_
   refine qF ?_
   refine qC rfl ?_
   refine qA (qB (v := .int .i64 _) rfl) ?_
   refine qA (qK (v := .bool _) rfl) ?_
   refine qA (qB (v := .bool _) rfl) ?_
   refine wQ rfl hr0' ?_
   refine wQ rfl hr0' ?_
   refine qA (wY rfl hr0' (v := .bool _) rfl) ?_
   refine zI rfl (rfl) ?_
   refine qT ?_
   refine ⟨(a7.p, [], x2), trivial, rfl, rfl, (Ext.refl _), fun h3 E3 => ⟨by rw [hr0], fun _ h => (by cases h), by rw [hr0] at r7; exact r7⟩, ?_⟩
   repeat (first | exact zE _ _ | exact qU _ _ _ | refine wB (by decide) ?_ | refine qS rfl ?_ | refine wZ (by decide +kernel) ?_)
  ·skip
   have hrp : 0 < s.reports.length := List.length_pos_iff.2 hr0
   have hr0' : decide (((s.reports.length : Nat) : Int) > 0) = true := decide_eq_true (by omega)
   obtain ⟨bR, lenR, capR, junkR, hlR, hjR, rfl⟩ := accR_some r7 (flat_ne seenM3 (by omega) hr0)
   dsimp only at hn7
   subst hn7
   dsimp only
   refine qF ?_
   refine qC rfl ?_
   refine qA (qG rfl rfl rfl rfl 3 rfl) ?_
   refine qI 3 (v := .slice _ _ _) rfl rfl rfl rfl ?_
   refine qA (wV rfl rfl) ?_
   refine qA (qE (v := .int .i64 _) rfl) ?_
   refine qF ?_
   refine qC rfl ?_
   refine qA (qB (v := .int .i64 _) rfl) ?_
   refine qA (qK (v := .bool _) rfl) ?_
   refine qA (qB (v := .bool _) rfl) ?_
   refine qQ rfl hr0' ?_
   refine qA (qB (v := .pointer _) rfl) ?_
   refine qQ rfl hr0' ?_
   refine zL [] [_] [_, _, _, _] (vs := [.pointer _, .int .i64 _, .int .i64 _]) rfl rfl rfl ((Odds_ok b x2 1 2 (by omega) g5)) ?_
   rintro _ h3 _ E3 ⟨x3, u3, rfl, rfl⟩
   refine qH [_, _, _, _, _] rfl ?_
   refine qA (wX rfl hr0' (v := .bool _) rfl) ?_
   refine wA rfl (fun hu => ?_) (fun hu => ?_)
   ·skip
    refine zB [true, false, true, false, false] rfl rfl rfl ?_
    refine qD (i := 0) rfl (by decide +kernel) (qG rfl rfl rfl rfl 3 rfl) ?_
    refine qL (i := 1) rfl (by decide +kernel) ?_
    refine qI 3 (v := .slice _ _ _) rfl rfl rfl rfl ?_
    refine qD (i := 2) rfl (by decide +kernel) (qB (v := .pointer _) rfl) ?_
    refine qD (i := 3) rfl (by decide +kernel) (qB (v := .int .i64 _) rfl) ?_
    refine qD (i := 4) rfl (by decide +kernel) (qO rfl (by omega)) ?_
    refine qD (i := 6) rfl (by decide +kernel) (qB (v := .pointer _) rfl) ?_
    refine zD (i := 5) rfl (by decide +kernel) ?_
    refine zL [] [_] [_, _, _, _] (vs := [.pointer _, .int .i64 _]) rfl rfl rfl ((Upto_ok b x3 ((s.reports.length : Int) - 1) (by omega) h3)) ?_
    rintro _ h4 _ E4 ⟨x4, k4, rfl, rfl, k41, k42⟩
    refine ⟨ext_wlm E4 _, ?_⟩
    refine qZ [_, _, _, _, _] rfl ?_
    obtain ⟨i, rfl⟩ : ∃ i : Nat, k4 = i := ⟨k4.toNat, by omega⟩
    have hir : i < s.reports.length := by omega
    refine zD (i := 7) rfl (by decide +kernel) ?_
    refine zL [] [_] [_, _, _, _] (vs := [.pointer _, .int .i64 _, .int .i64 _]) rfl rfl rfl ((Odds_ok b x4 1 2 (by omega) h4)) ?_
    rintro _ h5 _ E5 ⟨x5, u5, rfl, rfl⟩
    refine ⟨ext_wlm E5 _, ?_⟩
    refine qZ [_, _, _, _, _] rfl ?_
    refine qD (i := 8) rfl (by decide +kernel) (qM rfl rfl rfl rfl (by omega) (by omega)) ?_
    refine qD (i := 9) rfl (by decide +kernel) (qG rfl rfl rfl rfl _ rfl) ?_
    refine wI (i := 10) rfl (by decide +kernel) (by decide +kernel) ?_
    refine qJ 2 (m := 1) (v := .bool u5) (vs := [.bool u5]) (off := 0 + (i : Int).toNat * 3 + 2) (c' := (s.reports.set i { s.reports[i] with failed := u5 }).flatMap seenC ++ junkR) rfl rfl rfl rfl rfl rfl (Nat.ble_eq_true_of_le (by rw [List.length_append, wS (m := 3) (fun _ _ => rfl)]; omega)) rfl (by rw [show 0 + (i : Int).toNat * 3 + 2 = i * 3 + 2 from by omega]; exact flat_wr seenM3 hir (by simp) rfl junkR) ?_
    refine qZ [_, _, _, _, _] rfl ?_
    refine wW rfl ?_
    refine ⟨(some (bR, .cells ((s.reports.set i { s.reports[i] with failed := u5 }).flatMap seenC ++ junkR).toArray 36 (0, 0)), s.reports.set i { s.reports[i] with failed := u5 }, x5), trivial, rfl, rfl, (zP (zP E3 E4) E5), fun h3 E3 => ⟨by rw [List.length_set], fun r hr => (List.mem_or_eq_of_mem_set hr).elim (C.r r) (fun e => by rw [e]; have q := checkSeen_iff.1 (C.r s.reports[i] (List.getElem_mem hir)); exact checkSeen_iff.2 q), .inr ⟨bR, _, _, junkR, by rw [wS (m := 3) (fun _ _ => rfl), List.length_set], rfl, rfl, by rw [← hjR]; simp [wS (m := 3) (enc := seenC) (fun _ _ => rfl)]⟩⟩, ?_⟩
    repeat (first | exact zE _ _ | exact qU _ _ _ | refine wB (by decide) ?_ | refine qS rfl ?_ | refine wZ (by decide +kernel) ?_)
   ·skip
    refine qT ?_
    refine ⟨(some (bR, .cells (s.reports.flatMap seenC ++ junkR).toArray 36 (0, 0)), s.reports, x3), trivial, rfl, rfl, E3, fun h3 E3 => ⟨rfl, C.r, r7⟩, ?_⟩
    repeat (first | exact zE _ _ | exact qU _ _ _ | refine wB (by decide) ?_ | refine qS rfl ?_ | refine wZ (by decide +kernel) ?_)
 ·rintro ⟨z, rs, y⟩ T1 h_z E_z J_z
  refine qP [_, _, _, _, _] rfl ?_
  obtain ⟨Q1, Q2, Q3⟩ := J_z
  obtain ⟨p7, A7, n7, c7⟩ := a7
  dsimp only at hn7 Q3
  subst hn7
  dsimp only
  refine goes_pubO 2 rfl ?_
  intro g7 G7 P7
  refine qP [_, _, _, _, _] rfl ?_
  obtain ⟨t, ht'⟩ : ∃ t : Season, t = { s with reports := rs } := ⟨_, rfl⟩
  have hrl : t.reports.length = s.reports.length := by rw [ht']; exact Q1
  have hhl : t.heats = s.heats := by rw [ht']
  have hdl' : t.damps = s.damps := by rw [ht']
  have hjl : t.joints = s.joints := by rw [ht']
  have CT : CheckS t := by rw [ht']; exact C.reports (by omega) Q2
  have n5' : n5 = s.joints.length := by have := AccR.len r5; rw [wS (m := 9) (fun _ _ => rfl)] at this; dsimp only at this; omega
  have jT : t.joints.length ≤ 2 := by rw [hjl]; have := T.jl; omega
  have wT : t.heats.length ≤ 3 := by rw [hhl]; have := T.ww; have := T.hn.len; omega
  have RS : SeasonR g7 A0 A1 A5 A7 t := by
   rw [ht']
   exact ⟨RH.ext (zP (zP G5 E_z) G7), RD.ext (zP (zP G5 E_z) G7), ⟨fun _ _ => rfl, (AccR.rd r5 P5).ext (zP E_z G7)⟩, ⟨fun _ _ => rfl, AccR.rd Q3 P7⟩⟩
  have SV := checkM_zero CT.ok
  have tdl : t.damps.length = t.heats.length := CT.dl
  have tw1 : 1 ≤ t.heats.length := CT.w1
  have Sm : Small t := small_of CT
  rw [← hhl, ← hdl', ← hjl, ← hrl]
  clear RH RD R1 R2 R3 Q3 P7 P5 r5 r7
  refine qF ?_
  refine qC rfl ?_
  refine qA (qG rfl rfl rfl rfl 0 rfl) ?_
  refine qI 3 (v := .slice _ _ _) rfl rfl rfl rfl ?_
  refine qA (wV rfl rfl) ?_
  refine qA (qO rfl (by omega)) ?_
  refine qA (qE (v := .int .i64 _) rfl) ?_
  refine qF ?_
  refine qC rfl ?_
  refine wG (zc := [_]) (vs := [(0, .slice _ _ _)]) (cs := [_]) rfl rfl rfl rfl rfl rfl rfl fun b94 hb94 => ?_
  refine qH [_, _, _, _, _, _] rfl ?_
  refine wG (zc := [_]) (vs := [(0, .slice _ _ _)]) (cs := [_]) rfl rfl rfl rfl rfl rfl rfl fun b95 hb95 => ?_
  refine qH [_, _, _, _, _, _, _] rfl ?_
  refine wG (zc := [_]) (vs := [(0, .slice _ _ _), (1, .slice _ _ _)]) (cs := [_, _]) rfl rfl rfl rfl rfl rfl rfl fun b96 hb96 => ?_
  refine qH [_, _, _, _, _, _, _, _] rfl ?_
  refine qA (qE (v := .slice _ _ _) rfl) ?_
  refine zH 5 rfl ?_
  intro g8 F8 P8
  refine zH 6 rfl ?_
  intro g9 F9 P9
  refine qF ?_
  refine qF ?_
  refine qC rfl ?_
  refine qA (qE (v := .int .i64 _) rfl) ?_
  refine qN ?_
  refine xp_loopL [9, 10, 97, 98, 99, 100, 101, 102, 103, 104, 105, 106, 107, 108, 109, 110, 111, 112, 113, 114, 115, 116, 117, 118, 119, 120, 121] 8 (α := Nat × Value × Value) (fun ⟨j, o0, o1⟩ => [(9, .int .i64 j)]) (fun ⟨j, o0, o1⟩ L => L.set 7 (some (b96, .cells #[o0, o1] 38 (0, 0)))) (fun ⟨j, o0, o1⟩ h_j => j ≤ t.joints.length ∧ LLR h_j (if 0 < j then ownL t 0 else [[]]) o0 ∧ LLR h_j (if 1 < j then ownL t 1 else [[]]) o1) (fun ⟨j, o0, o1⟩ => t.joints.length - j) ((0, .slice (some ⟨b94, 0, none⟩) 1 1, .slice (some ⟨b95, 0, none⟩) 1 1)) ⟨rfl, trivial⟩ (rfl) (⟨Nat.zero_le _, llr_nil (F9 _ _ P8), llr_nil P9⟩) ?_
  rintro ⟨j, o0, o1⟩ T2 h_j E_j J_j
  refine qP [_, _, _, _, _, _, _, _] rfl ?_
  obtain ⟨K1, KO, KU⟩ := J_j
  refine qF ?_
  refine qF ?_
  refine qC rfl ?_
  refine qA (qB (v := .int .i64 _) rfl) ?_
  refine qA (qG rfl rfl rfl rfl 2 rfl) ?_
  refine qI 3 (v := .slice _ _ _) rfl rfl rfl rfl ?_
  refine qA (wV rfl rfl) ?_
  refine qA (qK (v := .bool _) rfl) ?_
  refine wA rfl (fun hj => ?_) (fun hj => ?_)
  ·skip
   have hjt : j < t.joints.length := ltI hj
   have JB := SV.b.jb _ (List.getElem_mem hjt)
   obtain ⟨gJ, oJ, hJ, cJ⟩ := RS.joints.at (by omega) hjt
   refine qT ?_
   refine qF ?_
   refine qN ?_
   refine qF ?_
   refine qC rfl ?_
   refine qA (qG rfl rfl rfl rfl 2 rfl) ?_
   refine qI 3 (v := .slice _ _ _) rfl rfl rfl rfl ?_
   refine qA (qB (v := .int .i64 _) rfl) ?_
   refine qA (wM rfl hJ rfl rfl rfl (by omega) (by omega)) ?_
   refine op_loadA rfl rfl rfl rfl (cJ.ext (zP (zP F8 F9) E_j)) ?_
   refine wO (cs := [_, _, _, _, _, _, _, _, _]) rfl rfl fun b10 hb10 => ?_
   refine qH [_, _, _, _, _, _, _, _, _] rfl ?_
   refine qJ 8 (v := .agg #[.int .i64 _, .int .i64 _, .int .i64 _, .int .i64 _, .int .i64 _, .int .i64 _, .int .i64 _, .int .i64 _, .int .i64 _]) (vs := [_, _, _, _, _, _, _, _, _]) (c' := [_, _, _, _, _, _, _, _, _]) rfl rfl rfl rfl rfl rfl rfl rfl rfl ?_
   refine qH [_, _, _, _, _, _, _, _, _] rfl ?_
   refine qC rfl ?_
   refine qA (qB (v := .slice _ _ _) rfl) ?_
   refine qA (qB (v := .int .i64 _) rfl) ?_
   refine qA (qG rfl rfl rfl rfl 1 rfl) ?_
   refine qX 8 (vs := [.int .i64 _, .int .i64 _]) rfl rfl rfl rfl rfl ?_
   refine qA (qG rfl rfl rfl rfl 3 rfl) ?_
   refine qX 8 (vs := [.int .i64 _, .int .i64 _]) rfl rfl rfl rfl rfl ?_
   refine qA (qG rfl rfl rfl rfl 5 rfl) ?_
   refine qX 8 (vs := [.int .i64 _, .int .i64 _]) rfl rfl rfl rfl rfl ?_
   refine qA (qG rfl rfl rfl rfl 7 rfl) ?_
   refine qX 8 (vs := [.int .i64 _, .int .i64 _]) rfl rfl rfl rfl rfl ?_
   refine wG (zc := [_, _]) (vs := [(0, .agg #[.int .i64 _, .int .i64 _]), (1, .agg #[.int .i64 _, .int .i64 _]), (2, .agg #[.int .i64 _, .int .i64 _]), (3, .agg #[.int .i64 _, .int .i64 _])]) (cs := [_, _, _, _, _, _, _, _]) rfl rfl rfl rfl rfl rfl rfl fun b119 hb119 => ?_
   refine qH [_, _, _, _, _, _, _, _, _, _] rfl ?_
   refine wp_pub 9 rfl rfl ?_
   intro gR FR PR
   refine qH [_, _, _, _, _, _, _, _, _, _] rfl ?_
   have RR : Row gR 2 rgC (some ⟨b119, 0, none⟩) [t.joints[j].high, t.joints[j].low, t.joints[j].weeks, t.joints[j].life] := row_blk (enc := rgC) (fun _ _ => rfl) PR
   have hJB : ∀ r ∈ [t.joints[j].high, t.joints[j].low, t.joints[j].weeks, t.joints[j].life], -1000 ≤ r.mn ∧ r.mn ≤ r.mx ∧ r.mx ≤ 1000 ∧ r.mx ≤ r.mn + 9 := by
    obtain ⟨q1, q2, q3, q4, q5, q6, q7, q8, q9, qa, qb, qc, qd, qe⟩ := JB
    intro r hr
    simp only [List.mem_cons, List.not_mem_nil, or_false] at hr
    rcases hr with rfl | rfl | rfl | rfl
    ·exact ⟨q1, q2, q3, by omega⟩
    ·exact ⟨q4, q5, q6, by omega⟩
    ·exact ⟨by omega, q8, by omega, by omega⟩
    ·exact ⟨by omega, qb, by omega, by omega⟩
   refine wP (caps := []) (vs := [.slice _ _ _]) rfl rfl rfl (choices_ok [t.joints[j].high, t.joints[j].low, t.joints[j].weeks, t.joints[j].life] (by simp) hJB (some ⟨b119, 0, none⟩) 4 gR RR) ?_
   rintro v h5 E5 VL
   rw [← ownL_some hjt] at VL
   obtain ⟨AV, cV, vV, rfl, VR, VLL⟩ := VL
   have VL : LLR h5 (ownL t j) (.slice AV (ownL t j).length cV) := ⟨AV, cV, vV, rfl, VR, VLL⟩
   clear VR VLL
   generalize hV : Value.slice AV (ownL t j).length cV = V at VL ⊢
   have hVp : ([V] : List Value).all plainB = true := by rw [← hV]; rfl
   have hVc : V.cells = #[V] := by rw [← hV]; rfl
   rcases (show j = 0 ∨ j = 1 by omega) with rfl | rfl
   ·skip
    refine qA (qM rfl rfl rfl rfl (by omega) (by omega)) ?_
    refine qJ 7 (m := 1) (v := V) (vs := [V]) (off := 0) (c' := [V, o1]) rfl rfl rfl rfl hVc rfl rfl hVp rfl ?_
    refine qH [_, _, _, _, _, _, _, _, _, _] rfl ?_
    refine qC rfl ?_
    refine qA (qB (v := .int .i64 _) rfl) ?_
    refine qA (qO rfl (by omega)) ?_
    refine qA (qE (v := .int .i64 _) rfl) ?_
    refine ⟨(1, V, o1), ⟨rfl, trivial⟩, rfl, rfl, (zP (zP E_j FR) E5), fun h3 E3 => ⟨hjt, VL.ext (zP (Ext.refl _) E3), KU.ext (zP (zP FR E5) E3)⟩, by first | omega | (dsimp only; omega), ?_⟩
    repeat (first | exact qU _ _ _ | refine wB (by decide) ?_ | refine qS rfl ?_ | refine wZ (by decide +kernel) ?_)
   ·skip
    refine qA (qM rfl rfl rfl rfl (by omega) (by omega)) ?_
    refine qJ 7 (m := 1) (v := V) (vs := [V]) (off := 1) (c' := [o0, V]) rfl rfl rfl rfl hVc rfl rfl hVp rfl ?_
    refine qH [_, _, _, _, _, _, _, _, _, _] rfl ?_
    refine qC rfl ?_
    refine qA (qB (v := .int .i64 _) rfl) ?_
    refine qA (qO rfl (by omega)) ?_
    refine qA (qE (v := .int .i64 _) rfl) ?_
    refine ⟨(2, o0, V), ⟨rfl, trivial⟩, rfl, rfl, (zP (zP E_j FR) E5), fun h3 E3 => ⟨by omega, KO.ext (zP (zP FR E5) E3), VL.ext (zP (Ext.refl _) E3)⟩, by first | omega | (dsimp only; omega), ?_⟩
    repeat (first | exact qU _ _ _ | refine wB (by decide) ?_ | refine qS rfl ?_ | refine wZ (by decide +kernel) ?_)
  ·skip
   have hje : j = t.joints.length := by have := geI hj; omega
   have e0 : (if 0 < j then ownL t 0 else [[]]) = ownL t 0 := by
    by_cases q : 0 < j
    ·rw [if_pos q]
    ·rw [if_neg q]; unfold ownL; rw [List.getElem?_eq_none (by omega)]
   have e1 : (if 1 < j then ownL t 1 else [[]]) = ownL t 1 := by
    by_cases q : 1 < j
    ·rw [if_pos q]
    ·rw [if_neg q]; unfold ownL; rw [List.getElem?_eq_none (by omega)]
   rw [e0] at KO
   rw [e1] at KU
   clear e0 e1 K1 hje hj
   obtain ⟨AO, cO, vO, rfl, RO, LO⟩ := KO
   obtain ⟨AU, cU, vU, rfl, RU, LU⟩ := KU
   refine zH 7 rfl ?_
   intro gO FO PO
   refine wU ?_
   have HC := choices_ok t.heats (by omega) (fun r hr => by have := SV.b.hb r hr; obtain ⟨q1, q2, q3, q4⟩ := this; omega) A0 c0
   have DC := choices_ok t.damps (by omega) (fun r hr => by have := SV.b.db r hr; obtain ⟨q1, q2, q3, q4⟩ := this; omega) A1 c1
   refine qF ?_
   refine zB [] rfl rfl rfl ?_
   refine qD (i := 0) rfl (by decide +kernel) (qG rfl rfl rfl rfl 0 rfl) ?_
   refine qL (i := 1) rfl (by decide +kernel) ?_
   refine qI 3 (v := .slice _ _ _) rfl rfl rfl rfl ?_
   refine qD (i := 3) rfl (by decide +kernel) (qG rfl rfl rfl rfl 1 rfl) ?_
   refine qL (i := 4) rfl (by decide +kernel) ?_
   refine qI 3 (v := .slice _ _ _) rfl rfl rfl rfl ?_
   refine zD (i := 2) rfl (by decide +kernel) ?_
   refine wP (caps := []) (vs := [.slice _ _ _]) rfl rfl rfl (HC gO (RS.heats.ext (zP (zP (zP F8 F9) E_j) FO))) ?_
   rintro _ hX EX ⟨AX, cX, vX, rfl, RX, LX⟩
   refine ⟨ext_wlm EX _, ?_⟩
   refine wI (i := 5) rfl (by decide +kernel) (by decide +kernel) ?_
   refine wP (caps := []) (vs := [.slice _ _ _]) rfl rfl rfl (DC hX (RS.damps.ext (zP (zP (zP (zP F8 F9) E_j) FO) EX))) ?_
   rintro _ hY EY ⟨AY, cY, vY, rfl, RY, LY⟩
   refine qD (i := 6) rfl (by decide +kernel) (qE (v := .slice _ _ _) rfl) ?_
   refine qD (i := 7) rfl (by decide +kernel) (qE (v := .slice _ _ _) rfl) ?_
   refine wW rfl ?_
   refine qF ?_
   refine qC rfl ?_
   refine qA (qB (v := .pointer _) rfl) ?_
   refine qA (qB (v := .int .i64 _) rfl) ?_
   refine zL [] [_] [_, _, _, _, _, _, _] (vs := [.pointer _, .int .i64 _]) rfl rfl rfl ((Upto_ok b y ((t.heats.length : Int) - 1) (by omega) hY)) ?_
   rintro _ hP _ EP ⟨y2, wk, rfl, rfl, wk1, wk2⟩
   refine qH [_, _, _, _, _, _, _, _] rfl ?_
   obtain ⟨wk, rfl⟩ : ∃ i : Nat, wk = i := ⟨wk.toNat, by omega⟩
   have hwk : wk < t.heats.length := by omega
   refine qA (qE (v := .int .i64 _) rfl) ?_
   refine qF ?_
   refine qC rfl ?_
   refine qA (qE (v := .slice _ _ _) rfl) ?_
   refine qA (qE (v := .slice _ _ _) rfl) ?_
   refine qF ?_
   refine qC rfl ?_
   refine op_makeSlice (len := 2) (cap := 2) (zc := [_]) rfl rfl rfl rfl rfl rfl rfl rfl rfl (by omega) (by omega) rfl fun mt hmt => ?_
   refine qH [_, _, _, _, _, _, _, _, _] rfl ?_
   refine qA (qE (v := .slice _ _ _) rfl) ?_
   refine qF ?_
   refine zB [] rfl rfl rfl ?_
   refine wI (i := 0) rfl (by decide +kernel) (by decide +kernel) ?_
   refine op_makeSlice (len := 2) (cap := 2) (zc := [_]) rfl rfl rfl rfl rfl rfl rfl rfl rfl (by omega) (by omega) rfl fun cs hcs => ?_
   refine qZ [_, _, _, _, _, _, _, _, _, _] rfl ?_
   refine qD (i := 2) rfl (by decide +kernel) (qE (v := .slice _ _ _) rfl) ?_
   refine wI (i := 1) rfl (by decide +kernel) (by decide +kernel) ?_
   refine op_makeSlice (len := 2) (cap := 2) (zc := [_]) rfl rfl rfl rfl rfl rfl rfl rfl rfl (by omega) (by omega) rfl fun cd hcd => ?_
   refine qZ [_, _, _, _, _, _, _, _, _, _, _] rfl ?_
   refine qD (i := 3) rfl (by decide +kernel) (qE (v := .slice _ _ _) rfl) ?_
   refine wW rfl ?_
   refine qF ?_
   refine zB [] rfl rfl rfl ?_
   refine wI (i := 0) rfl (by decide +kernel) (by decide +kernel) ?_
   refine op_makeSlice (len := 2) (cap := 2) (zc := [_]) rfl rfl rfl rfl rfl rfl rfl rfl rfl (by omega) (by omega) rfl fun fi hfi => ?_
   refine qZ [_, _, _, _, _, _, _, _, _, _, _, _] rfl ?_
   refine qD (i := 2) rfl (by decide +kernel) (qE (v := .slice _ _ _) rfl) ?_
   refine wI (i := 1) rfl (by decide +kernel) (by decide +kernel) ?_
   refine op_makeSlice (len := 2) (cap := 2) (zc := [_]) rfl rfl rfl rfl rfl rfl rfl rfl rfl (by omega) (by omega) rfl fun la hla => ?_
   refine qZ [_, _, _, _, _, _, _, _, _, _, _, _, _] rfl ?_
   refine qD (i := 3) rfl (by decide +kernel) (qE (v := .slice _ _ _) rfl) ?_
   refine wW rfl ?_
   refine qF ?_
   refine qF ?_
   refine qC rfl ?_
   refine qA (qE (v := .int .i64 _) rfl) ?_
   refine qN ?_
   refine qP [_, _, _, _, _, _, _, _, some (mt, .cells ([.slice none 0 0, .slice none 0 0] : List Value).toArray 46 (0, 0)), some (cs, .cells ([.slice none 0 0, .slice none 0 0] : List Value).toArray 46 (0, 0)), some (cd, .cells ([.slice none 0 0, .slice none 0 0] : List Value).toArray 46 (0, 0)), some (fi, .cells (bB (fiB t [])).toArray 4 (0, 0)), some (la, .cells (bB (laB t [])).toArray 4 (0, 0))] (by rw [fiB_nil, laB_nil]; rfl) ?_
   refine xp_unroll ?_
   refine qF ?_
   refine qF ?_
   refine qC rfl ?_
   refine qA (qB (v := .int .i64 _) rfl) ?_
   refine qA (qK (v := .bool _) rfl) ?_
   refine xp_condT rfl (rfl) ?_
   refine qT ?_
   refine qF ?_
   refine qN ?_
   refine zB [] rfl rfl rfl ?_
   refine qD (i := 0) rfl (by decide +kernel) (qB (v := .slice _ _ _) rfl) ?_
   refine qD (i := 1) rfl (by decide +kernel) (qB (v := .int .i64 _) rfl) ?_
   refine qD (i := 2) rfl (by decide +kernel) (qB (v := .slice _ _ _) rfl) ?_
   refine qD (i := 3) rfl (by decide +kernel) (qB (v := .int .i64 _) rfl) ?_
   refine qD (i := 4) rfl (by decide +kernel) (qB (v := .slice _ _ _) rfl) ?_
   refine qD (i := 5) rfl (by decide +kernel) (qB (v := .int .i64 _) rfl) ?_
   refine qD (i := 6) rfl (by decide +kernel) (qB (v := .int .i64 _) rfl) ?_
   refine qD (i := 7) rfl (by decide +kernel) (qO rfl (by omega)) ?_
   refine wI (i := 8) rfl (by decide +kernel) (by decide +kernel) ?_
   refine op_makeSlice (len := t.heats.length + 1) (cap := t.heats.length + 1) (zc := [.bool false]) rfl rfl (by omega) (by omega) rfl rfl rfl rfl rfl (by omega) (by omega) rfl fun m0 hm0 => ?_
   refine qZ [_, _, _, _, _, _, _, _, _, _, _, _, _, _] rfl ?_
   refine qD (i := 11) rfl (by decide +kernel) (qM rfl rfl rfl rfl (by omega) (by omega)) ?_
   refine wI (i := 12) rfl (by decide +kernel) (by decide +kernel) ?_
   refine qJ 8 (m := 1) (v := .slice (some ⟨m0, 0, none⟩) (t.heats.length + 1) (t.heats.length + 1)) (vs := [_]) (off := 0) (c' := [.slice (some ⟨m0, 0, none⟩) (t.heats.length + 1) (t.heats.length + 1), .slice none 0 0]) rfl rfl rfl rfl rfl rfl rfl rfl rfl ?_
   refine qZ [_, _, _, _, _, _, _, _, _, _, _, _, _, _] rfl ?_
   refine wI (i := 9) rfl (by decide +kernel) (by decide +kernel) ?_
   refine op_makeSlice (len := 3) (cap := 3) (zc := [.bool false]) rfl rfl rfl rfl rfl rfl rfl rfl rfl (by omega) (by omega) rfl fun a0 ha0 => ?_
   refine qZ [_, _, _, _, _, _, _, _, _, _, _, _, _, _, _] rfl ?_
   refine qD (i := 13) rfl (by decide +kernel) (qM rfl rfl rfl rfl (by omega) (by omega)) ?_
   refine wI (i := 14) rfl (by decide +kernel) (by decide +kernel) ?_
   refine qJ 9 (m := 1) (v := .slice (some ⟨a0, 0, none⟩) 3 3) (vs := [_]) (off := 0) (c' := [.slice (some ⟨a0, 0, none⟩) 3 3, .slice none 0 0]) rfl rfl rfl rfl rfl rfl rfl rfl rfl ?_
   refine qZ [_, _, _, _, _, _, _, _, _, _, _, _, _, _, _] rfl ?_
   refine wI (i := 10) rfl (by decide +kernel) (by decide +kernel) ?_
   refine op_makeSlice (len := 3) (cap := 3) (zc := [.bool false]) rfl rfl rfl rfl rfl rfl rfl rfl rfl (by omega) (by omega) rfl fun d0 hd0 => ?_
   refine qZ [_, _, _, _, _, _, _, _, _, _, _, _, _, _, _, _] rfl ?_
   refine qD (i := 15) rfl (by decide +kernel) (qM rfl rfl rfl rfl (by omega) (by omega)) ?_
   refine wI (i := 16) rfl (by decide +kernel) (by decide +kernel) ?_
   refine qJ 10 (m := 1) (v := .slice (some ⟨d0, 0, none⟩) 3 3) (vs := [_]) (off := 0) (c' := [.slice (some ⟨d0, 0, none⟩) 3 3, .slice none 0 0]) rfl rfl rfl rfl rfl rfl rfl rfl rfl ?_
   refine qZ [_, _, _, _, _, _, _, _, _, _, _, _, _, _, _, _] rfl ?_
   refine wW rfl ?_
   refine qC rfl ?_
   refine qA (qB (v := .int .i64 _) rfl) ?_
   refine qA (qO rfl (by omega)) ?_
   refine qA (qE (v := .int .i64 _) rfl) ?_
   refine again_unroll ?_
   refine qF ?_
   refine qF ?_
   refine qC rfl ?_
   refine qA (qB (v := .int .i64 _) rfl) ?_
   refine qA (qK (v := .bool _) rfl) ?_
   refine xp_condT rfl (rfl) ?_
   refine qT ?_
   refine qF ?_
   refine qN ?_
   refine zB [] rfl rfl rfl ?_
   refine qD (i := 0) rfl (by decide +kernel) (qB (v := .slice _ _ _) rfl) ?_
   refine qD (i := 1) rfl (by decide +kernel) (qB (v := .int .i64 _) rfl) ?_
   refine qD (i := 2) rfl (by decide +kernel) (qB (v := .slice _ _ _) rfl) ?_
   refine qD (i := 3) rfl (by decide +kernel) (qB (v := .int .i64 _) rfl) ?_
   refine qD (i := 4) rfl (by decide +kernel) (qB (v := .slice _ _ _) rfl) ?_
   refine qD (i := 5) rfl (by decide +kernel) (qB (v := .int .i64 _) rfl) ?_
   refine qD (i := 6) rfl (by decide +kernel) (qB (v := .int .i64 _) rfl) ?_
   refine qD (i := 7) rfl (by decide +kernel) (qO rfl (by omega)) ?_
   refine wI (i := 8) rfl (by decide +kernel) (by decide +kernel) ?_
   refine op_makeSlice (len := t.heats.length + 1) (cap := t.heats.length + 1) (zc := [.bool false]) rfl rfl (by omega) (by omega) rfl rfl rfl rfl rfl (by omega) (by omega) rfl fun m1 hm1 => ?_
   refine qZ [_, _, _, _, _, _, _, _, _, _, _, _, _, _, _, _, _] rfl ?_
   refine qD (i := 11) rfl (by decide +kernel) (qM rfl rfl rfl rfl (by omega) (by omega)) ?_
   refine wI (i := 12) rfl (by decide +kernel) (by decide +kernel) ?_
   refine qJ 8 (m := 1) (v := .slice (some ⟨m1, 0, none⟩) (t.heats.length + 1) (t.heats.length + 1)) (vs := [_]) (off := 1) (c' := [.slice (some ⟨m0, 0, none⟩) (t.heats.length + 1) (t.heats.length + 1), .slice (some ⟨m1, 0, none⟩) (t.heats.length + 1) (t.heats.length + 1)]) rfl rfl rfl rfl rfl rfl rfl rfl rfl ?_
   refine qZ [_, _, _, _, _, _, _, _, _, _, _, _, _, _, _, _, _] rfl ?_
   refine wI (i := 9) rfl (by decide +kernel) (by decide +kernel) ?_
   refine op_makeSlice (len := 3) (cap := 3) (zc := [.bool false]) rfl rfl rfl rfl rfl rfl rfl rfl rfl (by omega) (by omega) rfl fun a1 ha1 => ?_
   refine qZ [_, _, _, _, _, _, _, _, _, _, _, _, _, _, _, _, _, _] rfl ?_
   refine qD (i := 13) rfl (by decide +kernel) (qM rfl rfl rfl rfl (by omega) (by omega)) ?_
   refine wI (i := 14) rfl (by decide +kernel) (by decide +kernel) ?_
   refine qJ 9 (m := 1) (v := .slice (some ⟨a1, 0, none⟩) 3 3) (vs := [_]) (off := 1) (c' := [.slice (some ⟨a0, 0, none⟩) 3 3, .slice (some ⟨a1, 0, none⟩) 3 3]) rfl rfl rfl rfl rfl rfl rfl rfl rfl ?_
   refine qZ [_, _, _, _, _, _, _, _, _, _, _, _, _, _, _, _, _, _] rfl ?_
   refine wI (i := 10) rfl (by decide +kernel) (by decide +kernel) ?_
   refine op_makeSlice (len := 3) (cap := 3) (zc := [.bool false]) rfl rfl rfl rfl rfl rfl rfl rfl rfl (by omega) (by omega) rfl fun d1 hd1 => ?_
   refine qZ [_, _, _, _, _, _, _, _, _, _, _, _, _, _, _, _, _, _, _] rfl ?_
   refine qD (i := 15) rfl (by decide +kernel) (qM rfl rfl rfl rfl (by omega) (by omega)) ?_
   refine wI (i := 16) rfl (by decide +kernel) (by decide +kernel) ?_
   refine qJ 10 (m := 1) (v := .slice (some ⟨d1, 0, none⟩) 3 3) (vs := [_]) (off := 1) (c' := [.slice (some ⟨d0, 0, none⟩) 3 3, .slice (some ⟨d1, 0, none⟩) 3 3]) rfl rfl rfl rfl rfl rfl rfl rfl rfl ?_
   refine qZ [_, _, _, _, _, _, _, _, _, _, _, _, _, _, _, _, _, _, _] rfl ?_
   refine wW rfl ?_
   refine qC rfl ?_
   refine qA (qB (v := .int .i64 _) rfl) ?_
   refine qA (qO rfl (by omega)) ?_
   refine qA (qE (v := .int .i64 _) rfl) ?_
   refine again_unroll ?_
   refine qF ?_
   refine qF ?_
   refine qC rfl ?_
   refine qA (qB (v := .int .i64 _) rfl) ?_
   refine qA (qK (v := .bool _) rfl) ?_
   refine zI rfl (rfl) ?_
   refine wU ?_
   refine qP [_, _, _, _, _, _, _, _, _, _, _, _, _, some (m0, .cells (bB (metB t 0 [])).toArray 4 (0, 0)), some (a0, .cells (bB (caB t 0 [])).toArray 4 (0, 0)), some (d0, .cells (bB (cdB t 0 [])).toArray 4 (0, 0)), some (m1, .cells (bB (metB t 1 [])).toArray 4 (0, 0)), some (a1, .cells (bB (caB t 1 [])).toArray 4 (0, 0)), some (d1, .cells (bB (cdB t 1 [])).toArray 4 (0, 0))] (by rw [metB_nil, metB_nil, caB_nil, caB_nil, cdB_nil, cdB_nil, ← bB_new (t.heats.length + 1) [.bool false] rfl, ← bB_new 3 [.bool false] rfl]; rfl) ?_
   refine qF ?_
   refine qC rfl ?_
   refine wP (caps := []) (vs := [.int .i64 _, .int .i64 _]) rfl rfl rfl (to_ok 99 (-1) hP) ?_
   rintro _ hT ET rfl
   refine wO (cs := [_, _]) rfl rfl fun b22 hb22 => ?_
   refine qH [_, _, _, _, _, _, _, _, _, _, _, _, _, _, _, _, _, _, _, _] rfl ?_
   refine qJ 19 (v := .agg #[.int .i64 _, .int .i64 _]) (vs := [_, _]) (c' := [_, _]) rfl rfl rfl rfl rfl rfl rfl rfl rfl ?_
   refine qH [_, _, _, _, _, _, _, _, _, _, _, _, _, _, _, _, _, _, _, _] rfl ?_
   refine qA (qE (v := .bool _) rfl) ?_
   refine zH 8 rfl ?_
   intro gM FM PM
   refine zH 9 rfl ?_
   intro gA FA PA
   refine zH 10 rfl ?_
   intro gD FD PD
   have RM : Row gM 1 fnC (some ⟨mt, 0, none⟩) [.slice (some ⟨m0, 0, none⟩) (t.heats.length + 1) (t.heats.length + 1), .slice (some ⟨m1, 0, none⟩) (t.heats.length + 1) (t.heats.length + 1)] := rowFn PM
   have RA : Row gA 1 fnC (some ⟨cs, 0, none⟩) [.slice (some ⟨a0, 0, none⟩) 3 3, .slice (some ⟨a1, 0, none⟩) 3 3] := rowFn PA
   have RD : Row gD 1 fnC (some ⟨cd, 0, none⟩) [.slice (some ⟨d0, 0, none⟩) 3 3, .slice (some ⟨d1, 0, none⟩) 3 3] := rowFn PD
   have RW : Row gO 1 fnC (some ⟨b96, 0, none⟩) [.slice AO (ownL t 0).length cO, .slice AU (ownL t 1).length cU] := rowFn PO
   obtain ⟨_, _, w0, cW0⟩ := RW.at (by omega) (i := 0) (by simp)
   cases w0
   obtain ⟨_, _, w1, cW1⟩ := RW.at (by omega) (i := 1) (by simp)
   cases w1
   obtain ⟨_, _, wM0, cM0⟩ := RM.at (by omega) (i := 0) (by simp)
   cases wM0
   obtain ⟨_, _, wM1, cM1⟩ := RM.at (by omega) (i := 1) (by simp)
   cases wM1
   obtain ⟨_, _, wA0, cA0⟩ := RA.at (by omega) (i := 0) (by simp)
   cases wA0
   obtain ⟨_, _, wA1, cA1⟩ := RA.at (by omega) (i := 1) (by simp)
   cases wA1
   obtain ⟨_, _, wD0, cD0⟩ := RD.at (by omega) (i := 0) (by simp)
   cases wD0
   obtain ⟨_, _, wD1, cD1⟩ := RD.at (by omega) (i := 1) (by simp)
   cases wD1
   have lX := LX.1
   have lY := LY.1
   have lO := LO.1
   have lU := LU.1
   have bX : (chL t.heats).length ≤ 1000 := by
    have := ch_small (rs := t.heats) (by omega) (fun r hr => by obtain ⟨q1, q2, q3, q4⟩ := SV.b.hb r hr; omega) t.heats.length (Nat.le_refl _)
    rw [List.take_length] at this
    exact Nat.le_trans this (Nat.pow_le_pow_right (by omega) wT)
   have bY : (chL t.damps).length ≤ 1000 := by
    have := ch_small (rs := t.damps) (by omega) (fun r hr => by obtain ⟨q1, q2, q3, q4⟩ := SV.b.db r hr; omega) t.damps.length (Nat.le_refl _)
    rw [List.take_length] at this
    exact Nat.le_trans this (Nat.pow_le_pow_right (by omega) (show t.damps.length ≤ 3 by omega))
   have bOw : ∀ j, (ownL t j).length ≤ 10000 := own_small SV
   have nX : ∀ x ∈ chL t.heats, x.length = t.heats.length := fun x hx => by rw [ch_wth] at hx; have := wth_len _ _ _ hx; simpa using this
   have nY : ∀ x ∈ chL t.damps, x.length = t.heats.length := fun x hx => by rw [ch_wth] at hx; have := wth_len _ _ _ hx; rw [← tdl]; simpa using this
   have b0 := bOw 0
   have b1 := bOw 1
   refine goes_more ?_
   refine qP [_, _, _, _, _, _, _, _, _, _, _, _, _, _, _, _, _, _, _, _, _] rfl ?_
   refine goes_more ?_
   refine qP [_, _, _, _, _, _, _, _, _, _, _, _, _, _, _, _, _, _, _, _, _, _] rfl ?_
   refine qP [_, _, _, _, _, _, _, _, _, _, _, _, _, _, _, _, _, _, _, _, _, _] rfl ?_
   refine qF ?_
   refine qF ?_
   refine qC rfl ?_
   refine qA (qE (v := .int .i64 _) rfl) ?_
   refine qN ?_
   refine xp_loopL [14, 15, 23, 24, 25, 26, 27, 28, 29, 30, 31, 32, 33, 34, 35, 36, 37, 38, 39, 40, 41, 42, 43, 155, 156, 157, 158, 159, 160, 161, 162, 163, 164, 165, 166, 167, 168, 169, 170, 171, 172, 173, 174, 175, 176, 177, 178, 179, 180, 181, 182, 183, 184, 185, 186, 187, 188, 189, 190, 191, 192, 193, 194, 195, 196, 197, 198, 199, 200, 201, 202, 203, 204, 205, 206, 207, 208, 209, 210, 211, 212, 213, 214, 215, 216, 217, 218, 219, 220, 221, 222, 223, 224, 225, 226, 227, 228, 229, 230, 231, 232, 233, 234, 235, 236, 237, 238, 239, 240, 241, 242, 243, 244, 245, 246, 247, 248, 249, 250, 251, 252, 253, 254, 255, 256, 257, 258, 259, 260, 261, 262, 263, 264, 265, 266, 267, 268, 269, 270, 271, 272, 273, 274, 275, 276, 277, 278, 279, 280, 281, 282, 283, 284, 285, 286, 287, 288, 289, 290, 291, 292, 293, 294, 295, 296, 297, 298, 299, 300, 301, 302, 303, 304, 305, 306, 307, 308, 309, 310, 311, 312, 313, 314, 315, 316, 317, 318, 319, 320, 321, 322, 323, 324, 325, 326, 327, 328, 329, 330, 331, 332, 333, 334, 335, 336, 337, 338, 339, 340, 341, 342, 343, 344, 345, 346, 347, 348, 349, 350, 351, 352, 353, 354, 355, 356, 357, 358, 359, 360, 361, 362, 363, 364, 365, 366, 367, 368, 369, 370, 371, 372, 373, 374, 375, 376, 377, 378, 379, 380, 381, 382, 383, 384, 385, 386, 387, 388, 389, 390, 391, 392, 393, 394, 395, 396, 397, 398, 399, 400, 401, 402, 403, 404, 405, 406, 407, 408, 409, 410, 411, 412, 413, 414, 415, 416, 417, 418, 419, 420, 421, 422, 423, 424, 425, 426, 427, 428, 429, 430, 431, 432, 433, 434, 435, 436, 437, 438, 439, 440, 441, 442, 443, 444, 445, 446, 447, 448, 449, 450, 451, 452, 453, 454, 455, 456, 457, 458, 459, 460, 461, 462, 463, 464, 465, 466, 467, 468, 469, 470, 471, 472, 473, 474, 475, 476, 477, 478, 479, 480, 481, 482, 483, 484, 485, 486, 487, 488, 489, 490, 491, 492, 493, 494, 495, 496, 497, 498, 499, 500, 501, 502, 503, 504, 505, 506, 507, 508, 509] 22 (α := Nat × List Tru × Acc × Acc) (fun ⟨ia, Q, al, ah⟩ => [(24, .int .i64 ia), (14, .slice al.A al.n al.c), (15, .slice ah.A ah.n ah.c), (23, .bool (!Q.isEmpty))]) (fun ⟨ia, Q, al, ah⟩ L => ((((((((((L.set 11 (some (fi, .cells (bB (fiB t Q)).toArray 4 (0, 0)))).set 12 (some (la, .cells (bB (laB t Q)).toArray 4 (0, 0)))).set 13 (some (m0, .cells (bB (metB t 0 Q)).toArray 4 (0, 0)))).set 14 (some (a0, .cells (bB (caB t 0 Q)).toArray 4 (0, 0)))).set 15 (some (d0, .cells (bB (cdB t 0 Q)).toArray 4 (0, 0)))).set 16 (some (m1, .cells (bB (metB t 1 Q)).toArray 4 (0, 0)))).set 17 (some (a1, .cells (bB (caB t 1 Q)).toArray 4 (0, 0)))).set 18 (some (d1, .cells (bB (cdB t 1 Q)).toArray 4 (0, 0)))).set 19 (some (b22, .cells #[.int .i64 (soundT' t wk Q).mn, .int .i64 (soundT' t wk Q).mx] 41 (0, 0)))).set 20 (al.p)).set 21 (ah.p)) (fun ⟨ia, Q, al, ah⟩ h_ia => ia ≤ (chL t.heats).length ∧ Q = (((chL t.heats).take ia).flatMap (gX t)).filter (fineT t) ∧ AccL t.heats.length 41 Q (lowR t.heats.length (lowS Q)) al ∧ AccL t.heats.length 41 Q (lowR t.heats.length (highS Q)) ah) (fun ⟨ia, Q, al, ah⟩ => (chL t.heats).length - ia) ((0, [], acc0, acc0)) ⟨rfl, rfl, rfl, rfl, trivial⟩ (rfl) (⟨Nat.zero_le _, rfl, .inl ⟨rfl, rfl⟩, .inl ⟨rfl, rfl⟩⟩) ?_
   rintro ⟨ia, Q, al, ah⟩ T3 h_ia E_ia J_ia
   refine qP [_, _, _, _, _, _, _, _, _, _, _, _, _, _, _, _, _, _, _, _, _, _] rfl ?_
   obtain ⟨K1, KQ, Kl, Kh⟩ := J_ia
   refine qF ?_
   refine qF ?_
   refine qC rfl ?_
   refine qA (qB (v := .int .i64 _) rfl) ?_
   refine qA (qB (v := .slice _ _ _) rfl) ?_
   refine qA (wV rfl rfl) ?_
   refine qA (qK (v := .bool _) rfl) ?_
   refine wA rfl (fun ha => ?_) (fun ha => ?_)
   ·skip
    have hal : ia < (chL t.heats).length := ltI ha
    obtain ⟨x, hx⟩ : ∃ x, x = (chL t.heats)[ia] := ⟨_, rfl⟩
    have hxm : x ∈ chL t.heats := by rw [hx]; exact List.getElem_mem hal
    have hxl := nX x hxm
    obtain ⟨gx, ox, hAX, cX'⟩ := RX.at (by omega) (show ia < vX.length by omega)
    obtain ⟨Ax, cx, ex, RXx⟩ := LX.2 ia _ _ (List.getElem?_eq_getElem hal) (List.getElem?_eq_getElem (show ia < vX.length by omega))
    rw [← hx, hxl] at ex
    rw [← hx] at RXx
    rw [ex] at cX'
    obtain ⟨Pa, hPa⟩ : ∃ P, P = ((chL t.heats).take ia).flatMap (gX t) := ⟨_, rfl⟩
    rw [← hPa] at KQ
    refine qT ?_
    refine qF ?_
    refine qN ?_
    refine qF ?_
    refine qC rfl ?_
    refine qA (qE (v := .int .i64 _) rfl) ?_
    refine qN ?_
    refine xp_loopL [14, 15, 23, 25, 26, 27, 28, 29, 30, 31, 32, 33, 34, 35, 36, 37, 38, 39, 40, 41, 42, 43, 161, 162, 163, 164, 165, 166, 167, 168, 169, 170, 171, 172, 173, 174, 175, 176, 177, 178, 179, 180, 181, 182, 183, 184, 185, 186, 187, 188, 189, 190, 191, 192, 193, 194, 195, 196, 197, 198, 199, 200, 201, 202, 203, 204, 205, 206, 207, 208, 209, 210, 211, 212, 213, 214, 215, 216, 217, 218, 219, 220, 221, 222, 223, 224, 225, 226, 227, 228, 229, 230, 231, 232, 233, 234, 235, 236, 237, 238, 239, 240, 241, 242, 243, 244, 245, 246, 247, 248, 249, 250, 251, 252, 253, 254, 255, 256, 257, 258, 259, 260, 261, 262, 263, 264, 265, 266, 267, 268, 269, 270, 271, 272, 273, 274, 275, 276, 277, 278, 279, 280, 281, 282, 283, 284, 285, 286, 287, 288, 289, 290, 291, 292, 293, 294, 295, 296, 297, 298, 299, 300, 301, 302, 303, 304, 305, 306, 307, 308, 309, 310, 311, 312, 313, 314, 315, 316, 317, 318, 319, 320, 321, 322, 323, 324, 325, 326, 327, 328, 329, 330, 331, 332, 333, 334, 335, 336, 337, 338, 339, 340, 341, 342, 343, 344, 345, 346, 347, 348, 349, 350, 351, 352, 353, 354, 355, 356, 357, 358, 359, 360, 361, 362, 363, 364, 365, 366, 367, 368, 369, 370, 371, 372, 373, 374, 375, 376, 377, 378, 379, 380, 381, 382, 383, 384, 385, 386, 387, 388, 389, 390, 391, 392, 393, 394, 395, 396, 397, 398, 399, 400, 401, 402, 403, 404, 405, 406, 407, 408, 409, 410, 411, 412, 413, 414, 415, 416, 417, 418, 419, 420, 421, 422, 423, 424, 425, 426, 427, 428, 429, 430, 431, 432, 433, 434, 435, 436, 437, 438, 439, 440, 441, 442, 443, 444, 445, 446, 447, 448, 449, 450, 451, 452, 453, 454, 455, 456, 457, 458, 459, 460, 461, 462, 463, 464, 465, 466, 467, 468, 469, 470, 471, 472, 473, 474, 475, 476, 477, 478, 479, 480, 481, 482, 483, 484, 485, 486, 487, 488, 489, 490, 491, 492, 493, 494, 495, 496, 497, 498, 499, 500, 501, 502, 503, 504, 505, 506, 507, 508, 509] 22 (α := Nat × List Tru × Acc × Acc) (fun ⟨ib, Q, al, ah⟩ => [(25, .int .i64 ib), (14, .slice al.A al.n al.c), (15, .slice ah.A ah.n ah.c), (23, .bool (!Q.isEmpty))]) (fun ⟨ib, Q, al, ah⟩ L => ((((((((((L.set 11 (some (fi, .cells (bB (fiB t Q)).toArray 4 (0, 0)))).set 12 (some (la, .cells (bB (laB t Q)).toArray 4 (0, 0)))).set 13 (some (m0, .cells (bB (metB t 0 Q)).toArray 4 (0, 0)))).set 14 (some (a0, .cells (bB (caB t 0 Q)).toArray 4 (0, 0)))).set 15 (some (d0, .cells (bB (cdB t 0 Q)).toArray 4 (0, 0)))).set 16 (some (m1, .cells (bB (metB t 1 Q)).toArray 4 (0, 0)))).set 17 (some (a1, .cells (bB (caB t 1 Q)).toArray 4 (0, 0)))).set 18 (some (d1, .cells (bB (cdB t 1 Q)).toArray 4 (0, 0)))).set 19 (some (b22, .cells #[.int .i64 (soundT' t wk Q).mn, .int .i64 (soundT' t wk Q).mx] 41 (0, 0)))).set 20 (al.p)).set 21 (ah.p)) (fun ⟨ib, Q, al, ah⟩ h_ib => ib ≤ (chL t.damps).length ∧ Q = (Pa ++ ((chL t.damps).take ib).flatMap (gY t x)).filter (fineT t) ∧ AccL t.heats.length 41 Q (lowR t.heats.length (lowS Q)) al ∧ AccL t.heats.length 41 Q (lowR t.heats.length (highS Q)) ah) (fun ⟨ib, Q, al, ah⟩ => (chL t.damps).length - ib) ((0, Q, al, ah)) ⟨rfl, rfl, rfl, rfl, trivial⟩ (rfl) (⟨Nat.zero_le _, by simp only [List.take_zero, List.flatMap_nil, List.map_nil, List.append_nil]; exact KQ, Kl, Kh⟩) ?_
    rintro ⟨ib, Q, al, ah⟩ T4 h_ib E_ib J_ib
    refine qP [_, _, _, _, _, _, _, _, _, _, _, _, _, _, _, _, _, _, _, _, _, _] rfl ?_
    obtain ⟨K1, KQ, Kl, Kh⟩ := J_ib
    refine qF ?_
    refine qF ?_
    refine qC rfl ?_
    refine qA (qB (v := .int .i64 _) rfl) ?_
    refine qA (qB (v := .slice _ _ _) rfl) ?_
    refine qA (wV rfl rfl) ?_
    refine qA (qK (v := .bool _) rfl) ?_
    refine wA rfl (fun hb => ?_) (fun hb => ?_)
    ·skip
     have hbl : ib < (chL t.damps).length := ltI hb
     obtain ⟨yy, hy⟩ : ∃ x, x = (chL t.damps)[ib] := ⟨_, rfl⟩
     have hym : yy ∈ chL t.damps := by rw [hy]; exact List.getElem_mem hbl
     have hyl := nY yy hym
     obtain ⟨gy, oy, hAY, cY'⟩ := RY.at (by omega) (show ib < vY.length by omega)
     obtain ⟨Ay, cy, ey, RYy⟩ := LY.2 ib _ _ (List.getElem?_eq_getElem hbl) (List.getElem?_eq_getElem (show ib < vY.length by omega))
     rw [← hy, hyl] at ey
     rw [← hy] at RYy
     rw [ey] at cY'
     obtain ⟨Pb, hPb⟩ : ∃ P, P = Pa ++ ((chL t.damps).take ib).flatMap (gY t x) := ⟨_, rfl⟩
     rw [← hPb] at KQ
     refine qT ?_
     refine qF ?_
     refine qN ?_
     refine qF ?_
     refine qC rfl ?_
     refine qA (qE (v := .int .i64 _) rfl) ?_
     refine qN ?_
     refine xp_loopL [14, 15, 23, 26, 27, 28, 29, 30, 31, 32, 33, 34, 35, 36, 37, 38, 39, 40, 41, 42, 43, 167, 168, 169, 170, 171, 172, 173, 174, 175, 176, 177, 178, 179, 180, 181, 182, 183, 184, 185, 186, 187, 188, 189, 190, 191, 192, 193, 194, 195, 196, 197, 198, 199, 200, 201, 202, 203, 204, 205, 206, 207, 208, 209, 210, 211, 212, 213, 214, 215, 216, 217, 218, 219, 220, 221, 222, 223, 224, 225, 226, 227, 228, 229, 230, 231, 232, 233, 234, 235, 236, 237, 238, 239, 240, 241, 242, 243, 244, 245, 246, 247, 248, 249, 250, 251, 252, 253, 254, 255, 256, 257, 258, 259, 260, 261, 262, 263, 264, 265, 266, 267, 268, 269, 270, 271, 272, 273, 274, 275, 276, 277, 278, 279, 280, 281, 282, 283, 284, 285, 286, 287, 288, 289, 290, 291, 292, 293, 294, 295, 296, 297, 298, 299, 300, 301, 302, 303, 304, 305, 306, 307, 308, 309, 310, 311, 312, 313, 314, 315, 316, 317, 318, 319, 320, 321, 322, 323, 324, 325, 326, 327, 328, 329, 330, 331, 332, 333, 334, 335, 336, 337, 338, 339, 340, 341, 342, 343, 344, 345, 346, 347, 348, 349, 350, 351, 352, 353, 354, 355, 356, 357, 358, 359, 360, 361, 362, 363, 364, 365, 366, 367, 368, 369, 370, 371, 372, 373, 374, 375, 376, 377, 378, 379, 380, 381, 382, 383, 384, 385, 386, 387, 388, 389, 390, 391, 392, 393, 394, 395, 396, 397, 398, 399, 400, 401, 402, 403, 404, 405, 406, 407, 408, 409, 410, 411, 412, 413, 414, 415, 416, 417, 418, 419, 420, 421, 422, 423, 424, 425, 426, 427, 428, 429, 430, 431, 432, 433, 434, 435, 436, 437, 438, 439, 440, 441, 442, 443, 444, 445, 446, 447, 448, 449, 450, 451, 452, 453, 454, 455, 456, 457, 458, 459, 460, 461, 462, 463, 464, 465, 466, 467, 468, 469, 470, 471, 472, 473, 474, 475, 476, 477, 478, 479, 480, 481, 482, 483, 484, 485, 486, 487, 488, 489, 490, 491, 492, 493, 494, 495, 496, 497, 498, 499, 500, 501, 502, 503, 504, 505, 506, 507, 508, 509] 22 (α := Nat × List Tru × Acc × Acc) (fun ⟨ic, Q, al, ah⟩ => [(26, .int .i64 ic), (14, .slice al.A al.n al.c), (15, .slice ah.A ah.n ah.c), (23, .bool (!Q.isEmpty))]) (fun ⟨ic, Q, al, ah⟩ L => ((((((((((L.set 11 (some (fi, .cells (bB (fiB t Q)).toArray 4 (0, 0)))).set 12 (some (la, .cells (bB (laB t Q)).toArray 4 (0, 0)))).set 13 (some (m0, .cells (bB (metB t 0 Q)).toArray 4 (0, 0)))).set 14 (some (a0, .cells (bB (caB t 0 Q)).toArray 4 (0, 0)))).set 15 (some (d0, .cells (bB (cdB t 0 Q)).toArray 4 (0, 0)))).set 16 (some (m1, .cells (bB (metB t 1 Q)).toArray 4 (0, 0)))).set 17 (some (a1, .cells (bB (caB t 1 Q)).toArray 4 (0, 0)))).set 18 (some (d1, .cells (bB (cdB t 1 Q)).toArray 4 (0, 0)))).set 19 (some (b22, .cells #[.int .i64 (soundT' t wk Q).mn, .int .i64 (soundT' t wk Q).mx] 41 (0, 0)))).set 20 (al.p)).set 21 (ah.p)) (fun ⟨ic, Q, al, ah⟩ h_ic => ic ≤ (ownL t 0).length ∧ Q = (Pb ++ ((ownL t 0).take ic).flatMap (gC t x yy)).filter (fineT t) ∧ AccL t.heats.length 41 Q (lowR t.heats.length (lowS Q)) al ∧ AccL t.heats.length 41 Q (lowR t.heats.length (highS Q)) ah) (fun ⟨ic, Q, al, ah⟩ => (ownL t 0).length - ic) ((0, Q, al, ah)) ⟨rfl, rfl, rfl, rfl, trivial⟩ (rfl) (⟨Nat.zero_le _, by simp only [List.take_zero, List.flatMap_nil, List.map_nil, List.append_nil]; exact KQ, Kl, Kh⟩) ?_
     rintro ⟨ic, Q, al, ah⟩ T5 h_ic E_ic J_ic
     refine qP [_, _, _, _, _, _, _, _, _, _, _, _, _, _, _, _, _, _, _, _, _, _] rfl ?_
     obtain ⟨K1, KQ, Kl, Kh⟩ := J_ic
     refine qF ?_
     refine qF ?_
     refine qC rfl ?_
     refine qA (qB (v := .int .i64 _) rfl) ?_
     refine qA (qB (v := .slice _ _ _) rfl) ?_
     refine qA (qM rfl rfl rfl rfl (by omega) (by omega)) ?_
     refine qV (v := .slice _ _ _) rfl rfl ((cW0.ext (zP (zP (zP (zP (zP (zP (zP (zP (zP EX EY) EP) ET) FM) FA) FD) E_ia) E_ib) E_ic)) 0 _ rfl) ?_
     refine qA (wV rfl rfl) ?_
     refine qA (qK (v := .bool _) rfl) ?_
     refine wA rfl (fun hc' => ?_) (fun hc' => ?_)
     ·skip
      have hcl : ic < (ownL t 0).length := ltI hc'
      obtain ⟨cc, hcc⟩ : ∃ x, x = (ownL t 0)[ic] := ⟨_, rfl⟩
      have hcm : cc ∈ ownL t 0 := by rw [hcc]; exact List.getElem_mem hcl
      obtain ⟨gc, oc, hAO, cC'⟩ := RO.at (by omega) (show ic < vO.length by omega)
      obtain ⟨Ac, kc, ec, RCc⟩ := LO.2 ic _ _ (List.getElem?_eq_getElem hcl) (List.getElem?_eq_getElem (show ic < vO.length by omega))
      rw [← hcc] at ec RCc
      rw [ec] at cC'
      obtain ⟨Pc, hPc⟩ : ∃ P, P = Pb ++ ((ownL t 0).take ic).flatMap (gC t x yy) := ⟨_, rfl⟩
      rw [← hPc] at KQ
      refine qT ?_
      refine qF ?_
      refine qN ?_
      refine qF ?_
      refine qC rfl ?_
      refine qA (qE (v := .int .i64 _) rfl) ?_
      refine qN ?_
      refine xp_loopL [14, 15, 23, 27, 28, 29, 30, 31, 32, 33, 34, 35, 36, 37, 38, 39, 40, 41, 42, 43, 175, 176, 177, 178, 179, 180, 181, 182, 183, 184, 185, 186, 187, 188, 189, 190, 191, 192, 193, 194, 195, 196, 197, 198, 199, 200, 201, 202, 203, 204, 205, 206, 207, 208, 209, 210, 211, 212, 213, 214, 215, 216, 217, 218, 219, 220, 221, 222, 223, 224, 225, 226, 227, 228, 229, 230, 231, 232, 233, 234, 235, 236, 237, 238, 239, 240, 241, 242, 243, 244, 245, 246, 247, 248, 249, 250, 251, 252, 253, 254, 255, 256, 257, 258, 259, 260, 261, 262, 263, 264, 265, 266, 267, 268, 269, 270, 271, 272, 273, 274, 275, 276, 277, 278, 279, 280, 281, 282, 283, 284, 285, 286, 287, 288, 289, 290, 291, 292, 293, 294, 295, 296, 297, 298, 299, 300, 301, 302, 303, 304, 305, 306, 307, 308, 309, 310, 311, 312, 313, 314, 315, 316, 317, 318, 319, 320, 321, 322, 323, 324, 325, 326, 327, 328, 329, 330, 331, 332, 333, 334, 335, 336, 337, 338, 339, 340, 341, 342, 343, 344, 345, 346, 347, 348, 349, 350, 351, 352, 353, 354, 355, 356, 357, 358, 359, 360, 361, 362, 363, 364, 365, 366, 367, 368, 369, 370, 371, 372, 373, 374, 375, 376, 377, 378, 379, 380, 381, 382, 383, 384, 385, 386, 387, 388, 389, 390, 391, 392, 393, 394, 395, 396, 397, 398, 399, 400, 401, 402, 403, 404, 405, 406, 407, 408, 409, 410, 411, 412, 413, 414, 415, 416, 417, 418, 419, 420, 421, 422, 423, 424, 425, 426, 427, 428, 429, 430, 431, 432, 433, 434, 435, 436, 437, 438, 439, 440, 441, 442, 443, 444, 445, 446, 447, 448, 449, 450, 451, 452, 453, 454, 455, 456, 457, 458, 459, 460, 461, 462, 463, 464, 465, 466, 467, 468, 469, 470, 471, 472, 473, 474, 475, 476, 477, 478, 479, 480, 481, 482, 483, 484, 485, 486, 487, 488, 489, 490, 491, 492, 493, 494, 495, 496, 497, 498, 499, 500, 501, 502, 503, 504, 505, 506, 507, 508, 509] 22 (α := Nat × List Tru × Acc × Acc) (fun ⟨id, Q, al, ah⟩ => [(27, .int .i64 id), (14, .slice al.A al.n al.c), (15, .slice ah.A ah.n ah.c), (23, .bool (!Q.isEmpty))]) (fun ⟨id, Q, al, ah⟩ L => ((((((((((L.set 11 (some (fi, .cells (bB (fiB t Q)).toArray 4 (0, 0)))).set 12 (some (la, .cells (bB (laB t Q)).toArray 4 (0, 0)))).set 13 (some (m0, .cells (bB (metB t 0 Q)).toArray 4 (0, 0)))).set 14 (some (a0, .cells (bB (caB t 0 Q)).toArray 4 (0, 0)))).set 15 (some (d0, .cells (bB (cdB t 0 Q)).toArray 4 (0, 0)))).set 16 (some (m1, .cells (bB (metB t 1 Q)).toArray 4 (0, 0)))).set 17 (some (a1, .cells (bB (caB t 1 Q)).toArray 4 (0, 0)))).set 18 (some (d1, .cells (bB (cdB t 1 Q)).toArray 4 (0, 0)))).set 19 (some (b22, .cells #[.int .i64 (soundT' t wk Q).mn, .int .i64 (soundT' t wk Q).mx] 41 (0, 0)))).set 20 (al.p)).set 21 (ah.p)) (fun ⟨id, Q, al, ah⟩ h_id => id ≤ (ownL t 1).length ∧ Q = (Pc ++ ((ownL t 1).take id).map (fun d => (⟨x, yy, cc, d⟩ : Tru))).filter (fineT t) ∧ AccL t.heats.length 41 Q (lowR t.heats.length (lowS Q)) al ∧ AccL t.heats.length 41 Q (lowR t.heats.length (highS Q)) ah) (fun ⟨id, Q, al, ah⟩ => (ownL t 1).length - id) ((0, Q, al, ah)) ⟨rfl, rfl, rfl, rfl, trivial⟩ (rfl) (⟨Nat.zero_le _, by simp only [List.take_zero, List.flatMap_nil, List.map_nil, List.append_nil]; exact KQ, Kl, Kh⟩) ?_
      rintro ⟨id, Q, al, ah⟩ T6 h_id E_id J_id
      refine qP [_, _, _, _, _, _, _, _, _, _, _, _, _, _, _, _, _, _, _, _, _, _] rfl ?_
      obtain ⟨K1, KQ, Kl, Kh⟩ := J_id
      refine qF ?_
      refine qF ?_
      refine qC rfl ?_
      refine qA (qB (v := .int .i64 _) rfl) ?_
      refine qA (qB (v := .slice _ _ _) rfl) ?_
      refine qA (qM rfl rfl rfl rfl (by omega) (by omega)) ?_
      refine qV (v := .slice _ _ _) rfl rfl ((cW1.ext (zP (zP (zP (zP (zP (zP (zP (zP (zP (zP EX EY) EP) ET) FM) FA) FD) E_ia) E_ib) E_ic) E_id)) 0 _ rfl) ?_
      refine qA (wV rfl rfl) ?_
      refine qA (qK (v := .bool _) rfl) ?_
      refine wA rfl (fun hd' => ?_) (fun hd' => ?_)
      ·skip
       have hdl2 : id < (ownL t 1).length := ltI hd'
       obtain ⟨dd, hdd⟩ : ∃ x, x = (ownL t 1)[id] := ⟨_, rfl⟩
       have hdm : dd ∈ ownL t 1 := by rw [hdd]; exact List.getElem_mem hdl2
       obtain ⟨gd, od, hAU, cD'⟩ := RU.at (by omega) (show id < vU.length by omega)
       obtain ⟨Ad, kd, ed, RDd⟩ := LU.2 id _ _ (List.getElem?_eq_getElem hdl2) (List.getElem?_eq_getElem (show id < vU.length by omega))
       rw [← hdd] at ed RDd
       rw [ed] at cD'
       obtain ⟨u, hu⟩ : ∃ u : Tru, u = ⟨x, yy, cc, dd⟩ := ⟨_, rfl⟩
       have hut : u ∈ truths t := by rw [hu]; exact mem_truths.2 ⟨hxm, hym, hcm, hdm⟩
       have hux : u.x = x := by rw [hu]
       have huy : u.y = yy := by rw [hu]
       have huc : u.c = cc := by rw [hu]
       have hud : u.d = dd := by rw [hu]
       obtain ⟨Pd, hPd⟩ : ∃ P, P = Pc ++ ((ownL t 1).take id).map (fun d => (⟨x, yy, cc, d⟩ : Tru)) := ⟨_, rfl⟩
       rw [← hPd] at KQ
       have hPe : Pc ++ ((ownL t 1).take (id + 1)).map (fun d => (⟨x, yy, cc, d⟩ : Tru)) = Pd ++ [u] := by rw [take_snocM hdl2, hPd, hu, hdd, List.append_assoc]
       refine goes_more ?_
       refine qP [_, _, _, _, _, _, _, _, _, _, _, _, _, _, _, _, _, _, _, _, _, _, _] rfl ?_
       refine goes_more ?_
       refine qP [_, _, _, _, _, _, _, _, _, _, _, _, _, _, _, _, _, _, _, _, _, _, _, _] rfl ?_
       refine qT ?_
       refine qF ?_
       refine qN ?_
       refine qF ?_
       refine qC rfl ?_
       refine qA (qE (v := .slice _ _ _) rfl) ?_
       refine qF ?_
       refine qC rfl ?_
       refine qA (qE (v := .slice _ _ _) rfl) ?_
       refine qF ?_
       refine qC rfl ?_
       refine qA (qE (v := .bool _) rfl) ?_
       refine qF ?_
       refine qF ?_
       refine qC rfl ?_
       refine qA (qE (v := .int .i64 _) rfl) ?_
       refine qN ?_
       refine xp_loopL [28, 29, 30, 31, 32, 33, 34, 35, 36, 183, 184, 185, 186, 187, 188, 189, 190, 191, 192, 193, 194, 195, 196, 197, 198, 199, 200, 201, 202, 203, 204, 205, 206, 207, 208, 209, 210, 211, 212, 213, 214, 215, 216, 217, 218, 219, 220, 221, 222, 223, 224, 225, 226, 227, 228, 229, 230, 231, 232, 233, 234, 235, 236, 237, 238, 239, 240, 241, 242, 243, 244, 245, 246, 247, 248, 249, 250, 251, 252, 253, 254, 255, 256, 257, 258, 259, 260, 261, 262, 263, 264, 265, 266, 267] 24 (α := Nat × Acc × Acc × List Value) (fun ⟨jj, aw, ao, vs⟩ => [(31, .int .i64 jj), (28, .slice aw.A aw.n aw.c), (29, .slice ao.A ao.n ao.c), (30, .bool (fineK t u jj))]) (fun ⟨jj, aw, ao, vs⟩ L => (L.set 22 (aw.p)).set 23 (ao.p)) (fun ⟨jj, aw, ao, vs⟩ h_jj => jj ≤ t.joints.length ∧ AccR 3 1 (((List.range jj).map fun i => ((flT t u i).week : Int)).flatMap intC) aw ∧ AccR 46 1 vs ao ∧ RLv BLS h_jj ((List.range jj).map fun i => flB (flT t u i)) vs) (fun ⟨jj, aw, ao, vs⟩ => t.joints.length - jj) ((0, acc0, acc0, [])) ⟨rfl, rfl, rfl, rfl, trivial⟩ (rfl) (⟨Nat.zero_le _, accR0, accR0, RLv.nil⟩) ?_
       rintro ⟨jj, aw, ao, vs⟩ T7 h_jj E_jj J_jj
       refine qP [_, _, _, _, _, _, _, _, _, _, _, _, _, _, _, _, _, _, _, _, _, _, _, _] rfl ?_
       obtain ⟨KJ, KW, KV, KB⟩ := J_jj
       refine qF ?_
       refine qF ?_
       refine qC rfl ?_
       refine qA (qB (v := .int .i64 _) rfl) ?_
       refine qA (qG rfl rfl rfl rfl 2 rfl) ?_
       refine qI 3 (v := .slice _ _ _) rfl rfl rfl rfl ?_
       refine qA (wV rfl rfl) ?_
       refine qA (qK (v := .bool _) rfl) ?_
       refine wA rfl (fun hj => ?_) (fun hj => ?_)
       ·skip
        have hjt : jj < t.joints.length := ltI hj
        have h4c : cc.length = 4 := by
         rw [ownL_some (show 0 < t.joints.length by omega)] at hcm
         obtain ⟨p, q, r, v, _, _, _, _, e⟩ := mem_ch4.1 hcm
         rw [e]; rfl
        rw [h4c] at cC'
        obtain ⟨gJ, oJ, hJ, cJ⟩ := RS.joints.at (by omega) hjt
        have hkd : kindAt t jj = t.joints[jj].kind := kindAt_some (List.getElem?_eq_getElem hjt)
        refine qT ?_
        refine qF ?_
        refine qN ?_
        refine qF ?_
        refine zB [] rfl rfl rfl ?_
        refine qD (i := 0) rfl (by decide +kernel) (qB (v := .slice _ _ _) rfl) ?_
        refine qD (i := 1) rfl (by decide +kernel) (qB (v := .int .i64 _) rfl) ?_
        refine qD (i := 2) rfl (by decide +kernel) (wM rfl hAX rfl rfl rfl (by omega) (by omega)) ?_
        refine qL (i := 3) rfl (by decide +kernel) ?_
        refine qV (v := .slice _ _ _) rfl rfl ((cX'.ext (zP (zP (zP (zP (zP (zP (zP (zP (zP (zP EY EP) ET) FM) FA) FD) E_ia) E_ib) E_ic) E_id) E_jj)) 0 _ rfl) ?_
        refine qD (i := 4) rfl (by decide +kernel) (qB (v := .slice _ _ _) rfl) ?_
        refine qD (i := 5) rfl (by decide +kernel) (qM rfl rfl rfl rfl (by omega) (by omega)) ?_
        refine qL (i := 6) rfl (by decide +kernel) ?_
        refine qV (v := .slice _ _ _) rfl rfl ((cW0.ext (zP (zP (zP (zP (zP (zP (zP (zP (zP (zP (zP EX EY) EP) ET) FM) FA) FD) E_ia) E_ib) E_ic) E_id) E_jj)) 0 _ rfl) ?_
        refine qD (i := 7) rfl (by decide +kernel) (qB (v := .int .i64 _) rfl) ?_
        refine qD (i := 8) rfl (by decide +kernel) (wM rfl hAO rfl rfl rfl (by omega) (by omega)) ?_
        refine qL (i := 9) rfl (by decide +kernel) ?_
        refine qV (v := .slice _ _ _) rfl rfl ((cC'.ext (zP (zP (zP (zP (zP (zP (zP (zP (zP (zP (zP (zP FO EX) EY) EP) ET) FM) FA) FD) E_ia) E_ib) E_ic) E_id) E_jj)) 0 _ rfl) ?_
        refine qD (i := 10) rfl (by decide +kernel) (qE (v := .slice _ _ _) rfl) ?_
        refine qD (i := 11) rfl (by decide +kernel) (qE (v := .slice _ _ _) rfl) ?_
        refine wW rfl ?_
        refine xp_cutB [32, 200, 201, 202, 203, 204, 205, 206, 207, 208, 209, 210] 24 (α := Option Addr × Nat) (fun ⟨AW, cW⟩ => [(32, .slice AW t.heats.length cW)]) (fun ⟨AW, cW⟩ L => L) (fun ⟨AW, cW⟩ h_AW => Row h_AW 1 intC AW (wOf t u jj)) ?_ ?_
        ·skip
         refine qF ?_
         refine qC rfl ?_
         refine qA (qG rfl rfl rfl rfl 2 rfl) ?_
         refine qI 3 (v := .slice _ _ _) rfl rfl rfl rfl ?_
         refine qA (qB (v := .int .i64 _) rfl) ?_
         refine qA (wM rfl hJ rfl rfl rfl (by omega) (by omega)) ?_
         refine qA (qG rfl rfl rfl rfl _ rfl) ?_
         refine qV (v := .int .i64 _) rfl rfl ((cJ.ext (zP (zP (zP (zP (zP (zP (zP (zP (zP (zP (zP (zP (zP (zP (zP F8 F9) E_j) FO) EX) EY) EP) ET) FM) FA) FD) E_ia) E_ib) E_ic) E_id) E_jj)) 0 _ rfl) ?_
         refine qA (qK (v := .bool _) rfl) ?_
         refine wA rfl (fun hk => ?_) (fun hk => ?_)
         ·skip
          have hk2 : kindAt t jj = 2 := by rw [hkd]; exact of_decide_eq_true hk
          refine qC rfl ?_
          refine qA (qB (v := .slice _ _ _) rfl) ?_
          refine qA (qB (v := .int .i64 _) rfl) ?_
          refine qA (wM rfl hAY rfl rfl rfl (by omega) (by omega)) ?_
          refine qV (v := .slice _ _ _) rfl rfl ((cY'.ext (zP (zP (zP (zP (zP (zP (zP (zP (zP EP ET) FM) FA) FD) E_ia) E_ib) E_ic) E_id) E_jj)) 0 _ rfl) ?_
          refine qA (qE (v := .slice _ _ _) rfl) ?_
          refine ⟨(Ay, cy), ⟨rfl, trivial⟩, rfl, rfl, (Ext.refl _), fun h3 E3 => by unfold wOf; rw [if_pos hk2, huy]; exact RYy.ext (zP (zP (zP (zP (zP (zP (zP (zP (zP (zP EP ET) FM) FA) FD) E_ia) E_ib) E_ic) E_id) E_jj) E3), ?_⟩
          repeat (first | exact zE _ _ | exact qU _ _ _ | refine wB (by decide) ?_ | refine qS rfl ?_ | refine wZ (by decide +kernel) ?_)
         ·skip
          have hk2 : ¬ kindAt t jj = 2 := by rw [hkd]; exact of_decide_eq_false hk
          refine qT ?_
          refine ⟨(Ax, cx), ⟨rfl, trivial⟩, rfl, rfl, (Ext.refl _), fun h3 E3 => by unfold wOf; rw [if_neg hk2, hux]; exact RXx.ext (zP (zP (zP (zP (zP (zP (zP (zP (zP (zP (zP EY EP) ET) FM) FA) FD) E_ia) E_ib) E_ic) E_id) E_jj) E3), ?_⟩
          repeat (first | exact zE _ _ | exact qU _ _ _ | refine wB (by decide) ?_ | refine qS rfl ?_ | refine wZ (by decide +kernel) ?_)
        ·rintro ⟨AW, cW⟩ T8 h_AW E_AW J_AW
         refine qP [_, _, _, _, _, _, _, _, _, _, _, _, _, _, _, _, _, _, _, _, _, _, _, _] rfl ?_
         have RWj := J_AW
         refine xp_cutB [33, 211, 212, 213, 214, 215, 216, 217, 218] 24 (α := Option Addr × Nat) (fun ⟨AC, cC⟩ => [(33, .slice AC 4 cC)]) (fun ⟨AC, cC⟩ L => L) (fun ⟨AC, cC⟩ h_AC => Row h_AC 1 intC AC (cOf u jj)) ?_ ?_
         ·skip
          refine qF ?_
          refine qC rfl ?_
          refine qA (qB (v := .int .i64 _) rfl) ?_
          refine qA (qK (v := .bool _) rfl) ?_
          refine wA rfl (fun hk => ?_) (fun hk => ?_)
          ·skip
           have hj1 : jj = 1 := by have := of_decide_eq_true hk; omega
           have h4d : dd.length = 4 := by
            rw [ownL_some (show 1 < t.joints.length by omega)] at hdm
            obtain ⟨p, q, r, v, _, _, _, _, e⟩ := mem_ch4.1 hdm
            rw [e]; rfl
           rw [h4d] at cD'
           refine qC rfl ?_
           refine qA (qB (v := .slice _ _ _) rfl) ?_
           refine qA (qM rfl rfl rfl rfl (by omega) (by omega)) ?_
           refine qV (v := .slice _ _ _) rfl rfl ((cW1.ext (zP (zP (zP (zP (zP (zP (zP (zP (zP (zP (zP (zP EX EY) EP) ET) FM) FA) FD) E_ia) E_ib) E_ic) E_id) E_jj) E_AW)) 0 _ rfl) ?_
           refine qA (qB (v := .int .i64 _) rfl) ?_
           refine qA (wM rfl hAU rfl rfl rfl (by omega) (by omega)) ?_
           refine qV (v := .slice _ _ _) rfl rfl ((cD'.ext (zP (zP (zP (zP (zP (zP (zP (zP (zP (zP (zP (zP (zP FO EX) EY) EP) ET) FM) FA) FD) E_ia) E_ib) E_ic) E_id) E_jj) E_AW)) 0 _ rfl) ?_
           refine qA (qE (v := .slice _ _ _) rfl) ?_
           refine ⟨(Ad, kd), ⟨rfl, trivial⟩, rfl, rfl, (Ext.refl _), fun h3 E3 => by unfold cOf; rw [if_pos hj1, hud]; exact RDd.ext (zP (zP (zP (zP (zP (zP (zP (zP (zP (zP (zP (zP (zP (zP FO EX) EY) EP) ET) FM) FA) FD) E_ia) E_ib) E_ic) E_id) E_jj) E_AW) E3), ?_⟩
           repeat (first | exact zE _ _ | exact qU _ _ _ | refine wB (by decide) ?_ | refine qS rfl ?_ | refine wZ (by decide +kernel) ?_)
          ·skip
           have hj1 : ¬ jj = 1 := by have := of_decide_eq_false hk; omega
           refine qT ?_
           refine ⟨(Ac, kc), ⟨rfl, trivial⟩, rfl, rfl, (Ext.refl _), fun h3 E3 => by unfold cOf; rw [if_neg hj1, huc]; exact RCc.ext (zP (zP (zP (zP (zP (zP (zP (zP (zP (zP (zP (zP (zP (zP FO EX) EY) EP) ET) FM) FA) FD) E_ia) E_ib) E_ic) E_id) E_jj) E_AW) E3), ?_⟩
           repeat (first | exact zE _ _ | exact qU _ _ _ | refine wB (by decide) ?_ | refine qS rfl ?_ | refine wZ (by decide +kernel) ?_)
         ·rintro ⟨AC, cC⟩ T9 h_AC E_AC J_AC
          refine qP [_, _, _, _, _, _, _, _, _, _, _, _, _, _, _, _, _, _, _, _, _, _, _, _] rfl ?_
          have RCj := J_AC
          obtain ⟨p, q, r, v, hp, hq, hr, hv, e4⟩ := mem_ch4.1 (own_mem hut hjt jT)
          have hwl : (wOf t u jj).length = t.heats.length := by unfold wOf; by_cases hk : kindAt t jj = 2 <;> simp [hk, hux, huy, hxl, hyl]
          have hfl : flT t u jj = failM (skyOf (wOf t u jj)) t.heats.length p q r.toNat v.toNat := by unfold flT flN; rw [e4]; rfl
          have JB := SV.b.jb _ (List.getElem_mem hjt)
          have jw1 := JB.w1
          have jw3 := JB.w3
          have ja1 := JB.a1
          have hr0 : ((r.toNat : Nat) : Int) = r := by omega
          have hv0 : ((v.toNat : Nat) : Int) = v := by omega
          rw [e4] at RCj
          refine qF ?_
          refine qC rfl ?_
          refine qA (qB (v := .slice _ _ _) rfl) ?_
          refine qA (qB (v := .slice _ _ _) rfl) ?_
          have HF := lfails_ok (wOf t u jj) (by omega) p q r.toNat v.toNat (by omega) (by omega) AW AC cW cC h_AC (RWj.ext E_AC) (by rw [hr0, hv0]; exact RCj.ext (Ext.refl _))
          rw [hwl, ← hfl] at HF
          have hwk6 := fl_week t u jj
          refine wP (caps := []) (vs := [.slice _ _ _, .slice _ _ _]) rfl rfl rfl (HF) ?_
          rintro _ h9 E9 ⟨w9, rfl, BR⟩
          have BR : BLS h9 (flB (flT t u jj)) w9 := BR
          obtain ⟨AB, cB, rfl, BRr⟩ := BR
          have BR : BLS h9 (flB (flT t u jj)) (.slice AB (flB (flT t u jj)).length cB) := ⟨AB, cB, rfl, BRr⟩
          have vl := KB.1
          rw [List.length_map, List.length_range] at vl
          refine qA (qB (v := .tuple #[.int .i64 _, .slice _ _ _]) rfl) ?_
          refine qA (qK (v := .int .i64 _) rfl) ?_
          refine qA (qK (v := .slice _ _ _) rfl) ?_
          refine qA (qE (v := .int .i64 _) rfl) ?_
          refine qA (qE (v := .slice _ _ _) rfl) ?_
          refine qF ?_
          refine qC rfl ?_
          refine qA (qB (v := .slice _ _ _) rfl) ?_
          refine qA (qB (v := .int .i64 _) rfl) ?_
          refine wG (zc := [_]) (vs := [(0, .int .i64 _)]) (cs := [_]) rfl rfl rfl rfl rfl rfl rfl fun b227 hb227 => ?_
          refine qH [_, _, _, _, _, _, _, _, _, _, _, _, _, _, _, _, _, _, _, _, _, _, _, _, _] rfl ?_
          refine zK 22 KW rfl rfl rfl (fun V => rdP V (i := 24) rfl) rfl rfl rfl rfl rfl rfl rfl rfl rfl (by omega) rfl (by rw [wS (m := 1) (fun _ _ => rfl)]; simp; omega) fun a2 h10a E10a ha2 => ?_
          refine qH [_, _, _, _, _, _, _, _, _, _, _, _, _, _, _, _, _, _, _, _, _, _, _, _, _] rfl ?_
          refine qA (qB (v := .slice _ _ _) rfl) ?_
          refine qA (qB (v := .slice _ _ _) rfl) ?_
          refine wG (zc := [_]) (vs := [(0, .slice _ _ _)]) (cs := [_]) rfl rfl rfl rfl rfl rfl rfl fun b231 hb231 => ?_
          refine qH [_, _, _, _, _, _, _, _, _, _, _, _, _, _, _, _, _, _, _, _, _, _, _, _, _, _] rfl ?_
          refine zK 23 KV rfl rfl rfl (fun V => rdP V (i := 25) rfl) rfl rfl rfl rfl rfl rfl rfl rfl rfl (by omega) rfl (by simp; omega) fun a3 h11a E11a ha3 => ?_
          refine qH [_, _, _, _, _, _, _, _, _, _, _, _, _, _, _, _, _, _, _, _, _, _, _, _, _, _] rfl ?_
          refine qA (qE (v := .slice _ _ _) rfl) ?_
          refine qA (qE (v := .slice _ _ _) rfl) ?_
          refine qF ?_
          refine qC rfl ?_
          refine qA (qE (v := .int .i64 _) rfl) ?_
          refine qN ?_
          refine zN [30, 36, 233, 234, 235, 236, 237, 238, 239, 240, 241, 242, 243, 244, 245, 246, 247, 248, 249, 250, 251, 252, 253, 254, 255, 256, 257, 258, 259, 260, 261, 262, 263, 264, 265, 266, 267] 26 (α := Nat) (fun kr => [(36, .int .i64 kr), (30, .bool (fineK t u jj && saidK t u jj kr))]) (fun kr => _) (fun kr h_kr => kr ≤ t.reports.length) (fun kr => t.reports.length - kr) (0) ⟨rfl, (by unfold saidK; rw [List.take_zero, List.all_nil, Bool.and_true]; rfl), trivial⟩ (rfl) (Nat.zero_le _) ?_
          rintro kr T12 h_kr E_kr J_kr
          refine qP [_, _, _, _, _, _, _, _, _, _, _, _, _, _, _, _, _, _, _, _, _, _, _, _, _, _] rfl ?_
          refine qF ?_
          refine qF ?_
          refine qC rfl ?_
          refine qA (qB (v := .int .i64 _) rfl) ?_
          refine qA (qG rfl rfl rfl rfl 3 rfl) ?_
          refine qI 3 (v := .slice _ _ _) rfl rfl rfl rfl ?_
          refine qA (wV rfl rfl) ?_
          refine qA (qK (v := .bool _) rfl) ?_
          refine wA rfl (fun hkr => ?_) (fun hkr => ?_)
          ·skip
           have hkl : kr < t.reports.length := ltI hkr
           obtain ⟨gS, oS, hS, cS⟩ := RS.reports.at (by omega) hkl
           rcases Bool.eq_false_or_eq_true (fineK t u jj && saidK t u jj kr) with eF | eF
           ·skip
            refine qT ?_
            refine qF ?_
            refine qN ?_
            refine zB [] rfl rfl rfl ?_
            refine qD (i := 0) rfl (by decide +kernel) (qB (v := .bool _) rfl) ?_
            refine qD (i := 1) rfl (by decide +kernel) (qB (v := .bool _) rfl) ?_
            refine qY (i := 2) rfl (by decide +kernel) rfl eF (qG rfl rfl rfl rfl 3 rfl) ?_
            refine zM (i := 3) rfl (by decide +kernel) rfl eF ?_
            refine qI 3 (v := .slice _ _ _) rfl rfl rfl rfl ?_
            refine qY (i := 4) rfl (by decide +kernel) rfl eF (qB (v := .int .i64 _) rfl) ?_
            refine qY (i := 5) rfl (by decide +kernel) rfl eF (wM rfl hS rfl rfl rfl (by omega) (by omega)) ?_
            refine qY (i := 6) rfl (by decide +kernel) rfl eF (qG rfl rfl rfl rfl _ rfl) ?_
            refine zM (i := 7) rfl (by decide +kernel) rfl eF ?_
            refine qV (v := .int .i64 _) rfl rfl ((cS.ext (zP (zP (zP (zP (zP (zP (zP (zP (zP (zP (zP (zP (zP (zP (zP (zP (zP (zP (zP (zP (zP F8 F9) E_j) FO) EX) EY) EP) ET) FM) FA) FD) E_ia) E_ib) E_ic) E_id) E_jj) E_AW) E_AC) E9) E10a) E11a) E_kr)) 0 _ rfl) ?_
            refine qY (i := 8) rfl (by decide +kernel) rfl eF (qB (v := .int .i64 _) rfl) ?_
            refine qY (i := 9) rfl (by decide +kernel) rfl eF (qK (v := .bool _) rfl) ?_
            refine qY (i := 10) rfl (by decide +kernel) rfl eF (qB (v := .bool _) rfl) ?_
            rcases Bool.eq_false_or_eq_true (t.reports[kr].joint != (jj : Int)) with eN | eN
            ·skip
             refine wD (i := 11) rfl (by decide +kernel) rfl eN ?_
             refine wD (i := 12) rfl (by decide +kernel) rfl eN ?_
             refine wD (i := 13) rfl (by decide +kernel) rfl eN ?_
             refine wD (i := 14) rfl (by decide +kernel) rfl eN ?_
             refine wD (i := 15) rfl (by decide +kernel) rfl eN ?_
             refine wD (i := 16) rfl (by decide +kernel) rfl eN ?_
             refine wD (i := 17) rfl (by decide +kernel) rfl eN ?_
             refine wD (i := 18) rfl (by decide +kernel) rfl eN ?_
             refine wD (i := 19) rfl (by decide +kernel) rfl eN ?_
             refine wD (i := 20) rfl (by decide +kernel) rfl eN ?_
             refine wD (i := 21) rfl (by decide +kernel) rfl eN ?_
             refine wD (i := 22) rfl (by decide +kernel) rfl eN ?_
             refine wD (i := 23) rfl (by decide +kernel) rfl eN ?_
             refine wD (i := 24) rfl (by decide +kernel) rfl eN ?_
             refine wD (i := 25) rfl (by decide +kernel) rfl eN ?_
             refine qY (i := 26) rfl (by decide +kernel) rfl eF (wX rfl eN (v := .bool _) rfl) ?_
             refine qD (i := 27) rfl (by decide +kernel) (wX rfl eF (v := .bool _) rfl) ?_
             refine qD (i := 28) rfl (by decide +kernel) (qE (v := .bool _) rfl) ?_
             refine wW rfl ?_
             refine qC rfl ?_
             refine qA (qB (v := .int .i64 _) rfl) ?_
             refine qA (qO rfl (by omega)) ?_
             refine qA (qE (v := .int .i64 _) rfl) ?_
             have hd : decide (t.reports[kr].joint = (jj : Int)) = false := by simpa using eN
             refine ⟨kr + 1, ⟨rfl, (by rw [saidK_succ hkl, ← Bool.and_assoc, eF, hd]; rfl), trivial⟩, rfl, rfl, E_kr, fun h3 E3 => by first | trivial | omega | (refine ⟨?_, ?_⟩ <;> omega), by first | omega | (dsimp only; omega), ?_⟩
             repeat (first | exact qU _ _ _ | refine wB (by decide) ?_ | refine qS rfl ?_ | refine wZ (by decide +kernel) ?_)
            ·skip
             refine qY (i := 11) rfl (by decide +kernel) rfl eN (qG rfl rfl rfl rfl 3 rfl) ?_
             refine zM (i := 12) rfl (by decide +kernel) rfl eN ?_
             refine qI 3 (v := .slice _ _ _) rfl rfl rfl rfl ?_
             refine qY (i := 13) rfl (by decide +kernel) rfl eN (qB (v := .int .i64 _) rfl) ?_
             refine qY (i := 14) rfl (by decide +kernel) rfl eN (wM rfl hS rfl rfl rfl (by omega) (by omega)) ?_
             refine qY (i := 15) rfl (by decide +kernel) rfl eN (qG rfl rfl rfl rfl _ rfl) ?_
             refine zM (i := 16) rfl (by decide +kernel) rfl eN ?_
             refine qV (v := .bool _) rfl rfl ((cS.ext (zP (zP (zP (zP (zP (zP (zP (zP (zP (zP (zP (zP (zP (zP (zP (zP (zP (zP (zP (zP (zP F8 F9) E_j) FO) EX) EY) EP) ET) FM) FA) FD) E_ia) E_ib) E_ic) E_id) E_jj) E_AW) E_AC) E9) E10a) E11a) E_kr)) 2 _ rfl) ?_
             refine qY (i := 17) rfl (by decide +kernel) rfl eN (qB (v := .int .i64 _) rfl) ?_
             refine qY (i := 18) rfl (by decide +kernel) rfl eN (qG rfl rfl rfl rfl 3 rfl) ?_
             refine zM (i := 19) rfl (by decide +kernel) rfl eN ?_
             refine qI 3 (v := .slice _ _ _) rfl rfl rfl rfl ?_
             refine qY (i := 20) rfl (by decide +kernel) rfl eN (qB (v := .int .i64 _) rfl) ?_
             refine qY (i := 21) rfl (by decide +kernel) rfl eN (wM rfl hS rfl rfl rfl (by omega) (by omega)) ?_
             refine qY (i := 22) rfl (by decide +kernel) rfl eN (qG rfl rfl rfl rfl _ rfl) ?_
             refine zM (i := 23) rfl (by decide +kernel) rfl eN ?_
             refine qV (v := .int .i64 _) rfl rfl ((cS.ext (zP (zP (zP (zP (zP (zP (zP (zP (zP (zP (zP (zP (zP (zP (zP (zP (zP (zP (zP (zP (zP F8 F9) E_j) FO) EX) EY) EP) ET) FM) FA) FD) E_ia) E_ib) E_ic) E_id) E_jj) E_AW) E_AC) E9) E10a) E11a) E_kr)) 1 _ rfl) ?_
             refine qY (i := 24) rfl (by decide +kernel) rfl eN (qK (v := .bool _) rfl) ?_
             refine qY (i := 25) rfl (by decide +kernel) rfl eN (qK (v := .bool _) rfl) ?_
             refine qY (i := 26) rfl (by decide +kernel) rfl eF (wY rfl eN (v := .bool _) rfl) ?_
             refine qD (i := 27) rfl (by decide +kernel) (wX rfl eF (v := .bool _) rfl) ?_
             refine qD (i := 28) rfl (by decide +kernel) (qE (v := .bool _) rfl) ?_
             refine wW rfl ?_
             refine qC rfl ?_
             refine qA (qB (v := .int .i64 _) rfl) ?_
             refine qA (qO rfl (by omega)) ?_
             refine qA (qE (v := .int .i64 _) rfl) ?_
             have hd : decide (t.reports[kr].joint = (jj : Int)) = true := by simpa using eN
             refine ⟨kr + 1, ⟨rfl, (by rw [saidK_succ hkl, ← Bool.and_assoc, eF, hd]; rfl), trivial⟩, rfl, rfl, E_kr, fun h3 E3 => by first | trivial | omega | (refine ⟨?_, ?_⟩ <;> omega), by first | omega | (dsimp only; omega), ?_⟩
             repeat (first | exact qU _ _ _ | refine wB (by decide) ?_ | refine qS rfl ?_ | refine wZ (by decide +kernel) ?_)
           ·skip
            refine qT ?_
            refine qF ?_
            refine qN ?_
            refine zB [] rfl rfl rfl ?_
            refine qD (i := 0) rfl (by decide +kernel) (qB (v := .bool _) rfl) ?_
            refine qD (i := 1) rfl (by decide +kernel) (qB (v := .bool _) rfl) ?_
            refine wD (i := 2) rfl (by decide +kernel) rfl eF ?_
            refine wD (i := 3) rfl (by decide +kernel) rfl eF ?_
            refine wD (i := 4) rfl (by decide +kernel) rfl eF ?_
            refine wD (i := 5) rfl (by decide +kernel) rfl eF ?_
            refine wD (i := 6) rfl (by decide +kernel) rfl eF ?_
            refine wD (i := 7) rfl (by decide +kernel) rfl eF ?_
            refine wD (i := 8) rfl (by decide +kernel) rfl eF ?_
            refine wD (i := 9) rfl (by decide +kernel) rfl eF ?_
            refine wD (i := 10) rfl (by decide +kernel) rfl eF ?_
            refine dw_un (i := 11) rfl (by decide +kernel) rfl ?_
            refine dw_un (i := 12) rfl (by decide +kernel) rfl ?_
            refine dw_un (i := 13) rfl (by decide +kernel) rfl ?_
            refine dw_un (i := 14) rfl (by decide +kernel) rfl ?_
            refine dw_un (i := 15) rfl (by decide +kernel) rfl ?_
            refine dw_un (i := 16) rfl (by decide +kernel) rfl ?_
            refine dw_un (i := 17) rfl (by decide +kernel) rfl ?_
            refine dw_un (i := 18) rfl (by decide +kernel) rfl ?_
            refine dw_un (i := 19) rfl (by decide +kernel) rfl ?_
            refine dw_un (i := 20) rfl (by decide +kernel) rfl ?_
            refine dw_un (i := 21) rfl (by decide +kernel) rfl ?_
            refine dw_un (i := 22) rfl (by decide +kernel) rfl ?_
            refine dw_un (i := 23) rfl (by decide +kernel) rfl ?_
            refine dw_un (i := 24) rfl (by decide +kernel) rfl ?_
            refine dw_un (i := 25) rfl (by decide +kernel) rfl ?_
            refine wD (i := 26) rfl (by decide +kernel) rfl eF ?_
            refine qD (i := 27) rfl (by decide +kernel) (wY rfl eF (v := .bool _) rfl) ?_
            refine qD (i := 28) rfl (by decide +kernel) (qE (v := .bool _) rfl) ?_
            refine wW rfl ?_
            refine qC rfl ?_
            refine qA (qB (v := .int .i64 _) rfl) ?_
            refine qA (qO rfl (by omega)) ?_
            refine qA (qE (v := .int .i64 _) rfl) ?_
            refine ⟨kr + 1, ⟨rfl, (by rw [saidK_succ hkl, ← Bool.and_assoc, eF]; rfl), trivial⟩, rfl, rfl, E_kr, fun h3 E3 => by first | trivial | omega | (refine ⟨?_, ?_⟩ <;> omega), by first | omega | (dsimp only; omega), ?_⟩
            repeat (first | exact qU _ _ _ | refine wB (by decide) ?_ | refine qS rfl ?_ | refine wZ (by decide +kernel) ?_)
          ·skip
           have hke : kr = t.reports.length := by have := geI hkr; omega
           subst hke
           refine wU ?_
           refine qC rfl ?_
           refine qA (qB (v := .int .i64 _) rfl) ?_
           refine qA (qO rfl (by omega)) ?_
           refine qA (qE (v := .int .i64 _) rfl) ?_
           refine ⟨(jj + 1, a2, a3, vs ++ [.slice AB (flB (flT t u jj)).length cB]), ⟨rfl, rfl, rfl, (by rw [fineK_succ]; rfl), trivial⟩, rfl, rfl, (zP (zP (zP (zP (zP (zP E_jj E_AW) E_AC) E9) E10a) E11a) E_kr), fun h3 E3 => ⟨hjt, by rw [List.range_succ, List.map_append, List.flatMap_append]; exact ha2, ha3, by rw [List.range_succ, List.map_append]; exact (((blx KB (zP (zP (zP (zP (zP E_AW E_AC) E9) E10a) E11a) E_kr)).snoc (R := BLS) (BR.ext (zP (zP E10a E11a) E_kr))) |> fun z => blx z E3)⟩, by first | omega | (dsimp only; omega), ?_⟩
           repeat (first | exact qU _ _ _ | refine wB (by decide) ?_ | refine qS rfl ?_ | refine wZ (by decide +kernel) ?_)
       ·skip
        have hje : jj = t.joints.length := by have := geI hj; omega
        subst hje
        have vl := KB.1
        rw [List.length_map, List.length_range] at vl
        obtain ⟨pW, AW, nW, cW⟩ := aw
        obtain rfl : nW = t.joints.length := by have := AccR.len KW; rw [wS (m := 1) (fun _ _ => rfl)] at this; simp at this; omega
        obtain ⟨pV, AV, nV, cV⟩ := ao
        obtain rfl : nV = t.joints.length := by have := AccR.len KV; simp at this; omega
        dsimp only
        refine goes_pubO 22 rfl ?_
        intro gW GW PW
        refine qP [_, _, _, _, _, _, _, _, _, _, _, _, _, _, _, _, _, _, _, _, _, _, _, _] rfl ?_
        refine goes_pubO 23 rfl ?_
        intro gV GV PV
        refine qP [_, _, _, _, _, _, _, _, _, _, _, _, _, _, _, _, _, _, _, _, _, _, _, _] rfl ?_
        have RWk : Row gW 1 intC AW ((List.range t.joints.length).map fun i => ((flT t u i).week : Int)) := ⟨fun _ _ => rfl, AccR.rd KW PW⟩
        have RVk : Row gV 1 fnC AV vs := ⟨fun _ _ => rfl, by rw [flat_fn]; exact AccR.rd KV PV⟩
        clear KW KV PW PV
        refine wU ?_
        refine qF ?_
        refine qF ?_
        refine qC rfl ?_
        refine qA (qB (v := .bool _) rfl) ?_
        refine qA (qK (v := .bool _) rfl) ?_
        refine wA rfl (fun hf => ?_) (fun hf => ?_)
        ·skip
         have hfu : fineT t u = false := by unfold fineT; simpa using hf
         refine wU ?_
         refine qC rfl ?_
         refine qA (qB (v := .int .i64 _) rfl) ?_
         refine qA (qO rfl (by omega)) ?_
         refine qA (qE (v := .int .i64 _) rfl) ?_
         refine ⟨(id + 1, Q, al, ah), ⟨rfl, rfl, rfl, rfl, trivial⟩, rfl, rfl, (zP (zP (zP E_id E_jj) GW) GV), fun h3 E3 => ⟨hdl2, by rw [hPe, fine_skip hfu]; exact KQ, Kl, Kh⟩, by first | omega | (dsimp only; omega), ?_⟩
         repeat (first | exact qU _ _ _ | refine wB (by decide) ?_ | refine qS rfl ?_ | refine wZ (by decide +kernel) ?_)
        ·skip
         have hfu : fineT t u = true := by unfold fineT; simpa using hf
         have hKl := Kl
         refine qT ?_
         refine xp_cutB [14, 15, 37, 270, 271, 272, 273, 274, 275, 276, 277, 278, 279, 280, 281, 282, 283, 284, 285, 286, 287, 288, 289, 290, 291, 292, 293, 294, 295, 296, 297, 298, 299, 300, 301, 302, 303, 304, 305, 306, 307, 308, 309, 310, 311, 312, 313, 314, 315, 316, 317, 318] 24 (α := Nat × Nat) (fun ⟨q1, q2⟩ => [(14, .slice (some ⟨q1, 0, none⟩) t.heats.length t.heats.length), (15, .slice (some ⟨q2, 0, none⟩) t.heats.length t.heats.length)]) (fun ⟨q1, q2⟩ L => (L.set 20 (some (q1, .cells ((lowR t.heats.length (baseL (lowS Q) (skyOf x))).flatMap rgC).toArray 41 (0, 0)))).set 21 (some (q2, .cells ((lowR t.heats.length (baseL (highS Q) (skyOf yy))).flatMap rgC).toArray 41 (0, 0)))) (fun ⟨q1, q2⟩ h_q1 => True) ?_ ?_
         ·skip
          refine qF ?_
          refine qC rfl ?_
          refine qA (qB (v := .bool _) rfl) ?_
          refine qA (qK (v := .bool _) rfl) ?_
          refine wA rfl (fun hs => ?_) (fun hs => ?_)
          ·skip
           have hQ : Q = [] := by cases Q with | nil => rfl | cons a l => simp at hs
           rcases Kl with ⟨_, rfl⟩ | ⟨hne, _⟩
           ·rcases Kh with ⟨_, rfl⟩ | ⟨hne, _⟩
            ·refine qF ?_
             refine zB [] rfl rfl rfl ?_
             refine qD (i := 0) rfl (by decide +kernel) (qB (v := .int .i64 _) rfl) ?_
             refine qD (i := 1) rfl (by decide +kernel) (qO rfl (by omega)) ?_
             refine qD (i := 3) rfl (by decide +kernel) (qB (v := .int .i64 _) rfl) ?_
             refine qD (i := 4) rfl (by decide +kernel) (qO rfl (by omega)) ?_
             refine wI (i := 2) rfl (by decide +kernel) (by decide +kernel) ?_
             refine op_makeSlice (len := t.heats.length) (cap := t.heats.length) (zc := [.int .i64 0, .int .i64 0]) rfl rfl (by omega) (by omega) rfl rfl rfl rfl rfl (by omega) (by omega) rfl fun q1 hq1 => ?_
             refine qZ [_, _, _, _, _, _, _, _, _, _, _, _, _, _, _, _, _, _, _, _, _, _, _, _, _] rfl ?_
             refine qD (i := 6) rfl (by decide +kernel) (qE (v := .slice _ _ _) rfl) ?_
             refine wI (i := 5) rfl (by decide +kernel) (by decide +kernel) ?_
             refine op_makeSlice (len := t.heats.length) (cap := t.heats.length) (zc := [.int .i64 0, .int .i64 0]) rfl rfl (by omega) (by omega) rfl rfl rfl rfl rfl (by omega) (by omega) rfl fun q2 hq2 => ?_
             refine qZ [_, _, _, _, _, _, _, _, _, _, _, _, _, _, _, _, _, _, _, _, _, _, _, _, _, _] rfl ?_
             refine qD (i := 7) rfl (by decide +kernel) (qE (v := .slice _ _ _) rfl) ?_
             refine wW rfl ?_
             refine goes_two [_, _, _, _, _, _, _, _, _, _, _, _, _, _, _, _, _, _, _, _] _ _ rfl ?_
             refine qP [_, _, _, _, _, _, _, _, _, _, _, _, _, _, _, _, _, _, _, _, some (q1, .cells ((mixL (weekR [skyOf x]) (fun _ => ⟨0, 0⟩) t.heats.length 0).flatMap rgC).toArray 41 (0, 0)), some (q2, .cells ((mixL (weekR [skyOf yy]) (fun _ => ⟨0, 0⟩) t.heats.length 0).flatMap rgC).toArray 41 (0, 0)), none, none] (by rw [mixL_zero, mixL_zero, ← rg_new]; rfl) ?_
             refine qF ?_
             refine qC rfl ?_
             refine qA (qE (v := .int .i64 _) rfl) ?_
             refine qN ?_
             refine xp_loopL [37, 278, 279, 280, 281, 282, 283, 284, 285, 286, 287, 288, 289, 290, 291, 292, 293, 294, 295, 296, 297, 298, 299, 300, 301, 302, 303, 304, 305, 306, 307, 308, 309, 310, 311, 312, 313, 314, 315, 316, 317, 318] 24 (α := Nat) (fun wq => [(37, .int .i64 wq)]) (fun wq L => (L.set 20 (some (q1, .cells ((mixL (weekR [skyOf x]) (fun _ => ⟨0, 0⟩) t.heats.length wq).flatMap rgC).toArray 41 (0, 0)))).set 21 (some (q2, .cells ((mixL (weekR [skyOf yy]) (fun _ => ⟨0, 0⟩) t.heats.length wq).flatMap rgC).toArray 41 (0, 0)))) (fun wq h_wq => wq ≤ t.heats.length) (fun wq => t.heats.length - wq) (0) ⟨rfl, trivial⟩ (rfl) (Nat.zero_le _) ?_
             rintro wq T14 h_wq E_wq J_wq
             refine qP [_, _, _, _, _, _, _, _, _, _, _, _, _, _, _, _, _, _, _, _, _, _, _, _] rfl ?_
             refine qF ?_
             refine qF ?_
             refine qC rfl ?_
             refine qA (qB (v := .int .i64 _) rfl) ?_
             refine qA (qB (v := .int .i64 _) rfl) ?_
             refine qA (qK (v := .bool _) rfl) ?_
             refine wA rfl (fun hw => ?_) (fun hw => ?_)
             ·skip
              have hwl : wq < t.heats.length := by have := of_decide_eq_true hw; omega
              obtain ⟨gq, oq, hq, cq⟩ := RXx.at (by omega) (show wq < x.length by omega)
              obtain ⟨gr, or', hr, cr⟩ := RYy.at (by omega) (show wq < yy.length by omega)
              refine qT ?_
              refine qF ?_
              refine qN ?_
              refine zB [] rfl rfl rfl ?_
              refine qD (i := 0) rfl (by decide +kernel) (qB (v := .slice _ _ _) rfl) ?_
              refine qD (i := 1) rfl (by decide +kernel) (qB (v := .int .i64 _) rfl) ?_
              refine qD (i := 2) rfl (by decide +kernel) (qB (v := .slice _ _ _) rfl) ?_
              refine qD (i := 3) rfl (by decide +kernel) (qB (v := .int .i64 _) rfl) ?_
              refine qD (i := 4) rfl (by decide +kernel) (qB (v := .slice _ _ _) rfl) ?_
              refine qD (i := 5) rfl (by decide +kernel) (qB (v := .int .i64 _) rfl) ?_
              refine qD (i := 6) rfl (by decide +kernel) (wM rfl hAX rfl rfl rfl (by omega) (by omega)) ?_
              refine qL (i := 7) rfl (by decide +kernel) ?_
              refine qV (v := .slice _ _ _) rfl rfl ((cX'.ext (zP (zP (zP (zP (zP (zP (zP (zP (zP (zP (zP (zP (zP EY EP) ET) FM) FA) FD) E_ia) E_ib) E_ic) E_id) E_jj) GW) GV) E_wq)) 0 _ rfl) ?_
              refine qD (i := 8) rfl (by decide +kernel) (qB (v := .int .i64 _) rfl) ?_
              refine qD (i := 9) rfl (by decide +kernel) (wM rfl hq rfl rfl rfl (by omega) (by omega)) ?_
              refine qL (i := 10) rfl (by decide +kernel) ?_
              refine qV (v := .int .i64 _) rfl rfl ((cq.ext (zP (zP (zP (zP (zP (zP (zP (zP (zP (zP (zP (zP (zP EY EP) ET) FM) FA) FD) E_ia) E_ib) E_ic) E_id) E_jj) GW) GV) E_wq)) 0 _ rfl) ?_
              refine qD (i := 11) rfl (by decide +kernel) (qB (v := .slice _ _ _) rfl) ?_
              refine qD (i := 12) rfl (by decide +kernel) (qB (v := .int .i64 _) rfl) ?_
              refine qD (i := 13) rfl (by decide +kernel) (wM rfl hAX rfl rfl rfl (by omega) (by omega)) ?_
              refine qL (i := 14) rfl (by decide +kernel) ?_
              refine qV (v := .slice _ _ _) rfl rfl ((cX'.ext (zP (zP (zP (zP (zP (zP (zP (zP (zP (zP (zP (zP (zP EY EP) ET) FM) FA) FD) E_ia) E_ib) E_ic) E_id) E_jj) GW) GV) E_wq)) 0 _ rfl) ?_
              refine qD (i := 15) rfl (by decide +kernel) (qB (v := .int .i64 _) rfl) ?_
              refine qD (i := 16) rfl (by decide +kernel) (wM rfl hq rfl rfl rfl (by omega) (by omega)) ?_
              refine qL (i := 17) rfl (by decide +kernel) ?_
              refine qV (v := .int .i64 _) rfl rfl ((cq.ext (zP (zP (zP (zP (zP (zP (zP (zP (zP (zP (zP (zP (zP EY EP) ET) FM) FA) FD) E_ia) E_ib) E_ic) E_id) E_jj) GW) GV) E_wq)) 0 _ rfl) ?_
              refine qD (i := 19) rfl (by decide +kernel) (qB (v := .slice _ _ _) rfl) ?_
              refine qD (i := 20) rfl (by decide +kernel) (qB (v := .int .i64 _) rfl) ?_
              refine qD (i := 21) rfl (by decide +kernel) (wM rfl hAY rfl rfl rfl (by omega) (by omega)) ?_
              refine qL (i := 22) rfl (by decide +kernel) ?_
              refine qV (v := .slice _ _ _) rfl rfl ((cY'.ext (zP (zP (zP (zP (zP (zP (zP (zP (zP (zP (zP (zP EP ET) FM) FA) FD) E_ia) E_ib) E_ic) E_id) E_jj) GW) GV) E_wq)) 0 _ rfl) ?_
              refine qD (i := 23) rfl (by decide +kernel) (qB (v := .int .i64 _) rfl) ?_
              refine qD (i := 24) rfl (by decide +kernel) (wM rfl hr rfl rfl rfl (by omega) (by omega)) ?_
              refine qL (i := 25) rfl (by decide +kernel) ?_
              refine qV (v := .int .i64 _) rfl rfl ((cr.ext (zP (zP (zP (zP (zP (zP (zP (zP (zP (zP (zP (zP EP ET) FM) FA) FD) E_ia) E_ib) E_ic) E_id) E_jj) GW) GV) E_wq)) 0 _ rfl) ?_
              refine qD (i := 26) rfl (by decide +kernel) (qB (v := .slice _ _ _) rfl) ?_
              refine qD (i := 27) rfl (by decide +kernel) (qB (v := .int .i64 _) rfl) ?_
              refine qD (i := 28) rfl (by decide +kernel) (wM rfl hAY rfl rfl rfl (by omega) (by omega)) ?_
              refine qL (i := 29) rfl (by decide +kernel) ?_
              refine qV (v := .slice _ _ _) rfl rfl ((cY'.ext (zP (zP (zP (zP (zP (zP (zP (zP (zP (zP (zP (zP EP ET) FM) FA) FD) E_ia) E_ib) E_ic) E_id) E_jj) GW) GV) E_wq)) 0 _ rfl) ?_
              refine qD (i := 30) rfl (by decide +kernel) (qB (v := .int .i64 _) rfl) ?_
              refine qD (i := 31) rfl (by decide +kernel) (wM rfl hr rfl rfl rfl (by omega) (by omega)) ?_
              refine qL (i := 32) rfl (by decide +kernel) ?_
              refine qV (v := .int .i64 _) rfl rfl ((cr.ext (zP (zP (zP (zP (zP (zP (zP (zP (zP (zP (zP (zP EP ET) FM) FA) FD) E_ia) E_ib) E_ic) E_id) E_jj) GW) GV) E_wq)) 0 _ rfl) ?_
              refine zD (i := 18) rfl (by decide +kernel) ?_
              refine wP (caps := []) (vs := [.int .i64 _, .int .i64 _]) rfl rfl rfl (to_ok x[wq] x[wq] h_wq) ?_
              rintro _ k1 D1 rfl
              refine ⟨ext_wlm D1 _, ?_⟩
              refine wI (i := 33) rfl (by decide +kernel) (by decide +kernel) ?_
              refine wP (caps := []) (vs := [.int .i64 _, .int .i64 _]) rfl rfl rfl (to_ok yy[wq] yy[wq] k1) ?_
              rintro _ k2 D2 rfl
              refine qD (i := 34) rfl (by decide +kernel) (qM rfl rfl rfl rfl (by omega) (by omega)) ?_
              refine wI (i := 35) rfl (by decide +kernel) (by decide +kernel) ?_
              refine qJ 20 (m := 2) (v := .agg #[.int .i64 x[wq], .int .i64 x[wq]]) (vs := [.int .i64 x[wq], .int .i64 x[wq]]) (off := 0 + (wq : Int).toNat * 2) (c' := (mixL (weekR [skyOf x]) (fun _ => ⟨0, 0⟩) t.heats.length (wq + 1)).flatMap rgC) rfl rfl rfl rfl rfl rfl (Nat.ble_eq_true_of_le (by rw [wS (m := 2) (fun _ _ => rfl), zG]; omega)) rfl (by rw [rg_wr0 (by rw [zG]; exact hwl), zJ _ _ (week_get (by omega) (by omega))]) ?_
              refine qZ [_, _, _, _, _, _, _, _, _, _, _, _, _, _, _, _, _, _, _, _, _, _, _, _] rfl ?_
              refine qD (i := 36) rfl (by decide +kernel) (qM rfl rfl rfl rfl (by omega) (by omega)) ?_
              refine wI (i := 37) rfl (by decide +kernel) (by decide +kernel) ?_
              refine qJ 21 (m := 2) (v := .agg #[.int .i64 yy[wq], .int .i64 yy[wq]]) (vs := [.int .i64 yy[wq], .int .i64 yy[wq]]) (off := 0 + (wq : Int).toNat * 2) (c' := (mixL (weekR [skyOf yy]) (fun _ => ⟨0, 0⟩) t.heats.length (wq + 1)).flatMap rgC) rfl rfl rfl rfl rfl rfl (Nat.ble_eq_true_of_le (by rw [wS (m := 2) (fun _ _ => rfl), zG]; omega)) rfl (by rw [rg_wr0 (by rw [zG]; exact hwl), zJ _ _ (week_get (by omega) (by omega))]) ?_
              refine qZ [_, _, _, _, _, _, _, _, _, _, _, _, _, _, _, _, _, _, _, _, _, _, _, _] rfl ?_
              refine wW rfl ?_
              refine qC rfl ?_
              refine qA (qB (v := .int .i64 _) rfl) ?_
              refine qA (qO rfl (by omega)) ?_
              refine qA (qE (v := .int .i64 _) rfl) ?_
              refine ⟨wq + 1, ⟨rfl, trivial⟩, rfl, rfl, (zP (zP E_wq D1) D2), fun h3 E3 => by first | trivial | omega | (refine ⟨?_, ?_⟩ <;> omega), by first | omega | (dsimp only; omega), ?_⟩
              repeat (first | exact qU _ _ _ | refine wB (by decide) ?_ | refine qS rfl ?_ | refine wZ (by decide +kernel) ?_)
             ·skip
              have hwe : wq = t.heats.length := by have := of_decide_eq_false hw; omega
              subst hwe
              have e1 : mixL (weekR [skyOf x]) (fun _ => ⟨0, 0⟩) t.heats.length t.heats.length = lowR t.heats.length (baseL (lowS Q) (skyOf x)) := by rw [mixL_all _ _ (fun i h1 h2 => by omega), hQ]; rfl
              have e2 : mixL (weekR [skyOf yy]) (fun _ => ⟨0, 0⟩) t.heats.length t.heats.length = lowR t.heats.length (baseL (highS Q) (skyOf yy)) := by rw [mixL_all _ _ (fun i h1 h2 => by omega), hQ]; rfl
              refine wU ?_
              refine ⟨(q1, q2), ⟨rfl, rfl, trivial⟩, rfl, (by rw [← e1, ← e2]; rfl), E_wq, fun h3 E3 => by first | trivial | omega | (refine ⟨?_, ?_⟩ <;> omega), ?_⟩
              repeat (first | exact zE _ _ | exact qU _ _ _ | refine wB (by decide) ?_ | refine qS rfl ?_ | refine wZ (by decide +kernel) ?_)
            ·exact absurd hQ hne
           ·exact absurd hQ hne
          ·skip
           have hQ : Q ≠ [] := by intro e; subst e; simp at hs
           rcases Kl with ⟨e, _⟩ | ⟨_, q1, rfl⟩
           ·exact absurd e hQ
           ·rcases Kh with ⟨e, _⟩ | ⟨_, q2, rfl⟩
            ·exact absurd e hQ
            ·refine qT ?_
             have be : baseL (lowS Q) (skyOf x) = lowS Q := by unfold baseL lowS; rw [if_neg (by simpa using hQ)]
             have be2 : baseL (highS Q) (skyOf yy) = highS Q := by unfold baseL highS; rw [if_neg (by simpa using hQ)]
             refine ⟨(q1, q2), ⟨rfl, rfl, trivial⟩, rfl, (by rw [be, be2]; rfl), (Ext.refl _), fun h3 E3 => by first | trivial | omega | (refine ⟨?_, ?_⟩ <;> omega), ?_⟩
             repeat (first | exact zE _ _ | exact qU _ _ _ | refine wB (by decide) ?_ | refine qS rfl ?_ | refine wZ (by decide +kernel) ?_)
         ·rintro ⟨q1, q2⟩ T13 h_q1 E_q1 J_q1
          refine qP [_, _, _, _, _, _, _, _, _, _, _, _, _, _, _, _, _, _, _, _, _, _, _, _] rfl ?_
          obtain ⟨Q', hQ'⟩ : ∃ Q', Q' = Q ++ [u] := ⟨_, rfl⟩
          have hsx : lowS Q' = lowS Q ++ [skyOf x] := by rw [hQ', lowS_snoc, hux]
          have hsy : highS Q' = highS Q ++ [skyOf yy] := by rw [hQ', highS_snoc, huy]
          refine qF ?_
          refine qC rfl ?_
          refine qA (qE (v := .bool _) rfl) ?_
          refine xp_cutB [38, 319, 320, 321, 322, 323, 324, 325, 326, 327, 328, 329, 330, 331, 332, 333, 334, 335, 336, 337, 338, 339, 340, 341, 342, 343, 344, 345, 346, 347, 348, 349, 350, 351, 352, 353, 354, 355, 356, 357, 358, 359, 360, 361, 362, 363, 364, 365, 366, 367, 368, 369, 370, 371, 372, 373, 374, 375, 376, 377, 378, 379, 380, 381, 382, 383] 24 (α := Unit) (fun uw => []) (fun uw L => (L.set 20 (some (q1, .cells ((lowR t.heats.length (lowS Q')).flatMap rgC).toArray 41 (0, 0)))).set 21 (some (q2, .cells ((lowR t.heats.length (highS Q')).flatMap rgC).toArray 41 (0, 0)))) (fun uw h_uw => True) ?_ ?_
          ·skip
           refine qF ?_
           refine qC rfl ?_
           refine qA (qE (v := .int .i64 _) rfl) ?_
           refine qN ?_
           refine xp_loopL [38, 319, 320, 321, 322, 323, 324, 325, 326, 327, 328, 329, 330, 331, 332, 333, 334, 335, 336, 337, 338, 339, 340, 341, 342, 343, 344, 345, 346, 347, 348, 349, 350, 351, 352, 353, 354, 355, 356, 357, 358, 359, 360, 361, 362, 363, 364, 365, 366, 367, 368, 369, 370, 371, 372, 373, 374, 375, 376, 377, 378, 379, 380, 381, 382, 383] 24 (α := Nat) (fun wq => [(38, .int .i64 wq)]) (fun wq L => (L.set 20 (some (q1, .cells ((mixL (weekR (lowS Q ++ [skyOf x])) (weekR (baseL (lowS Q) (skyOf x))) t.heats.length wq).flatMap rgC).toArray 41 (0, 0)))).set 21 (some (q2, .cells ((mixL (weekR (highS Q ++ [skyOf yy])) (weekR (baseL (highS Q) (skyOf yy))) t.heats.length wq).flatMap rgC).toArray 41 (0, 0)))) (fun wq h_wq => wq ≤ t.heats.length) (fun wq => t.heats.length - wq) (0) ⟨rfl, trivial⟩ ((by rw [mixL_zero, mixL_zero]; rfl)) (Nat.zero_le _) ?_
           rintro wq T16 h_wq E_wq J_wq
           refine qP [_, _, _, _, _, _, _, _, _, _, _, _, _, _, _, _, _, _, _, _, _, _, _, _] rfl ?_
           refine qF ?_
           refine qF ?_
           refine qC rfl ?_
           refine qA (qB (v := .int .i64 _) rfl) ?_
           refine qA (qB (v := .int .i64 _) rfl) ?_
           refine qA (qK (v := .bool _) rfl) ?_
           refine wA rfl (fun hw => ?_) (fun hw => ?_)
           ·skip
            have hwl : wq < t.heats.length := by have := of_decide_eq_true hw; omega
            obtain ⟨gq, oq, hq, cq⟩ := RXx.at (by omega) (show wq < x.length by omega)
            obtain ⟨gr, or', hr, cr⟩ := RYy.at (by omega) (show wq < yy.length by omega)
            refine qT ?_
            refine qF ?_
            refine qN ?_
            refine qF ?_
            refine zB [] rfl rfl rfl ?_
            refine qD (i := 0) rfl (by decide +kernel) (qB (v := .slice _ _ _) rfl) ?_
            refine qD (i := 1) rfl (by decide +kernel) (qB (v := .int .i64 _) rfl) ?_
            refine qD (i := 2) rfl (by decide +kernel) (qB (v := .slice _ _ _) rfl) ?_
            refine qD (i := 3) rfl (by decide +kernel) (qB (v := .int .i64 _) rfl) ?_
            refine qD (i := 4) rfl (by decide +kernel) (qM rfl rfl rfl rfl (by omega) (by omega)) ?_
            refine qD (i := 5) rfl (by decide +kernel) (qG rfl rfl rfl rfl _ rfl) ?_
            refine qL (i := 6) rfl (by decide +kernel) ?_
            refine qI 20 (v := .int .i64 (weekR (baseL (lowS Q) (skyOf x)) wq).mn) (off := 0 + (wq : Int).toNat * 2 + 0) rfl rfl rfl (rg_mn0 (mixL_at _ _ hwl)) ?_
            refine qD (i := 7) rfl (by decide +kernel) (qB (v := .slice _ _ _) rfl) ?_
            refine qD (i := 8) rfl (by decide +kernel) (qB (v := .int .i64 _) rfl) ?_
            refine qD (i := 9) rfl (by decide +kernel) (wM rfl hAX rfl rfl rfl (by omega) (by omega)) ?_
            refine qL (i := 10) rfl (by decide +kernel) ?_
            refine qV (v := .slice _ _ _) rfl rfl ((cX'.ext (zP (zP (zP (zP (zP (zP (zP (zP (zP (zP (zP (zP (zP (zP EY EP) ET) FM) FA) FD) E_ia) E_ib) E_ic) E_id) E_jj) GW) GV) E_q1) E_wq)) 0 _ rfl) ?_
            refine qD (i := 11) rfl (by decide +kernel) (qB (v := .int .i64 _) rfl) ?_
            refine qD (i := 12) rfl (by decide +kernel) (wM rfl hq rfl rfl rfl (by omega) (by omega)) ?_
            refine qL (i := 13) rfl (by decide +kernel) ?_
            refine qV (v := .int .i64 _) rfl rfl ((cq.ext (zP (zP (zP (zP (zP (zP (zP (zP (zP (zP (zP (zP (zP (zP EY EP) ET) FM) FA) FD) E_ia) E_ib) E_ic) E_id) E_jj) GW) GV) E_q1) E_wq)) 0 _ rfl) ?_
            refine qD (i := 14) rfl (by decide +kernel) (pv_min rfl rfl) ?_
            refine qD (i := 15) rfl (by decide +kernel) (qB (v := .slice _ _ _) rfl) ?_
            refine qD (i := 16) rfl (by decide +kernel) (qB (v := .int .i64 _) rfl) ?_
            refine qD (i := 17) rfl (by decide +kernel) (qM rfl rfl rfl rfl (by omega) (by omega)) ?_
            refine qD (i := 18) rfl (by decide +kernel) (qG rfl rfl rfl rfl _ rfl) ?_
            refine qL (i := 19) rfl (by decide +kernel) ?_
            refine qI 20 (v := .int .i64 (weekR (baseL (lowS Q) (skyOf x)) wq).mx) (off := 0 + (wq : Int).toNat * 2 + 1) rfl rfl rfl (rg_mx0 (mixL_at _ _ hwl)) ?_
            refine qD (i := 20) rfl (by decide +kernel) (qB (v := .slice _ _ _) rfl) ?_
            refine qD (i := 21) rfl (by decide +kernel) (qB (v := .int .i64 _) rfl) ?_
            refine qD (i := 22) rfl (by decide +kernel) (wM rfl hAX rfl rfl rfl (by omega) (by omega)) ?_
            refine qL (i := 23) rfl (by decide +kernel) ?_
            refine qV (v := .slice _ _ _) rfl rfl ((cX'.ext (zP (zP (zP (zP (zP (zP (zP (zP (zP (zP (zP (zP (zP (zP EY EP) ET) FM) FA) FD) E_ia) E_ib) E_ic) E_id) E_jj) GW) GV) E_q1) E_wq)) 0 _ rfl) ?_
            refine qD (i := 24) rfl (by decide +kernel) (qB (v := .int .i64 _) rfl) ?_
            refine qD (i := 25) rfl (by decide +kernel) (wM rfl hq rfl rfl rfl (by omega) (by omega)) ?_
            refine qL (i := 26) rfl (by decide +kernel) ?_
            refine qV (v := .int .i64 _) rfl rfl ((cq.ext (zP (zP (zP (zP (zP (zP (zP (zP (zP (zP (zP (zP (zP (zP EY EP) ET) FM) FA) FD) E_ia) E_ib) E_ic) E_id) E_jj) GW) GV) E_q1) E_wq)) 0 _ rfl) ?_
            refine qD (i := 27) rfl (by decide +kernel) (pv_max rfl rfl) ?_
            refine wI (i := 28) rfl (by decide +kernel) (by decide +kernel) ?_
            refine wP (caps := []) (vs := [.int .i64 _, .int .i64 _]) rfl rfl rfl (to_ok (min (weekR (baseL (lowS Q) (skyOf x)) wq).mn x[wq]) (max (weekR (baseL (lowS Q) (skyOf x)) wq).mx x[wq]) h_wq) ?_
            rintro _ klo Dlo rfl
            refine qD (i := 29) rfl (by decide +kernel) (qM rfl rfl rfl rfl (by omega) (by omega)) ?_
            refine wI (i := 30) rfl (by decide +kernel) (by decide +kernel) ?_
            refine qJ 20 (m := 2) (v := .agg #[.int .i64 (min (weekR (baseL (lowS Q) (skyOf x)) wq).mn x[wq]), .int .i64 (max (weekR (baseL (lowS Q) (skyOf x)) wq).mx x[wq])]) (vs := [.int .i64 (min (weekR (baseL (lowS Q) (skyOf x)) wq).mn x[wq]), .int .i64 (max (weekR (baseL (lowS Q) (skyOf x)) wq).mx x[wq])]) (off := 0 + (wq : Int).toNat * 2) (c' := (mixL (weekR (lowS Q ++ [skyOf x])) (weekR (baseL (lowS Q) (skyOf x))) t.heats.length (wq + 1)).flatMap rgC) rfl rfl rfl rfl rfl rfl (Nat.ble_eq_true_of_le (by rw [wS (m := 2) (fun _ _ => rfl), zG]; omega)) rfl (by rw [rg_wr0 (by rw [zG]; exact hwl), zJ _ _ (step_get (by omega) (by omega))]) ?_
            refine qZ [_, _, _, _, _, _, _, _, _, _, _, _, _, _, _, _, _, _, _, _, _, _, _, _] rfl ?_
            refine wW rfl ?_
            refine zB [] rfl rfl rfl ?_
            refine qD (i := 0) rfl (by decide +kernel) (qB (v := .slice _ _ _) rfl) ?_
            refine qD (i := 1) rfl (by decide +kernel) (qB (v := .int .i64 _) rfl) ?_
            refine qD (i := 2) rfl (by decide +kernel) (qB (v := .slice _ _ _) rfl) ?_
            refine qD (i := 3) rfl (by decide +kernel) (qB (v := .int .i64 _) rfl) ?_
            refine qD (i := 4) rfl (by decide +kernel) (qM rfl rfl rfl rfl (by omega) (by omega)) ?_
            refine qD (i := 5) rfl (by decide +kernel) (qG rfl rfl rfl rfl _ rfl) ?_
            refine qL (i := 6) rfl (by decide +kernel) ?_
            refine qI 21 (v := .int .i64 (weekR (baseL (highS Q) (skyOf yy)) wq).mn) (off := 0 + (wq : Int).toNat * 2 + 0) rfl rfl rfl (rg_mn0 (mixL_at _ _ hwl)) ?_
            refine qD (i := 7) rfl (by decide +kernel) (qB (v := .slice _ _ _) rfl) ?_
            refine qD (i := 8) rfl (by decide +kernel) (qB (v := .int .i64 _) rfl) ?_
            refine qD (i := 9) rfl (by decide +kernel) (wM rfl hAY rfl rfl rfl (by omega) (by omega)) ?_
            refine qL (i := 10) rfl (by decide +kernel) ?_
            refine qV (v := .slice _ _ _) rfl rfl ((cY'.ext (zP (zP (zP (zP (zP (zP (zP (zP (zP (zP (zP (zP (zP (zP EP ET) FM) FA) FD) E_ia) E_ib) E_ic) E_id) E_jj) GW) GV) E_q1) E_wq) Dlo)) 0 _ rfl) ?_
            refine qD (i := 11) rfl (by decide +kernel) (qB (v := .int .i64 _) rfl) ?_
            refine qD (i := 12) rfl (by decide +kernel) (wM rfl hr rfl rfl rfl (by omega) (by omega)) ?_
            refine qL (i := 13) rfl (by decide +kernel) ?_
            refine qV (v := .int .i64 _) rfl rfl ((cr.ext (zP (zP (zP (zP (zP (zP (zP (zP (zP (zP (zP (zP (zP (zP EP ET) FM) FA) FD) E_ia) E_ib) E_ic) E_id) E_jj) GW) GV) E_q1) E_wq) Dlo)) 0 _ rfl) ?_
            refine qD (i := 14) rfl (by decide +kernel) (pv_min rfl rfl) ?_
            refine qD (i := 15) rfl (by decide +kernel) (qB (v := .slice _ _ _) rfl) ?_
            refine qD (i := 16) rfl (by decide +kernel) (qB (v := .int .i64 _) rfl) ?_
            refine qD (i := 17) rfl (by decide +kernel) (qM rfl rfl rfl rfl (by omega) (by omega)) ?_
            refine qD (i := 18) rfl (by decide +kernel) (qG rfl rfl rfl rfl _ rfl) ?_
            refine qL (i := 19) rfl (by decide +kernel) ?_
            refine qI 21 (v := .int .i64 (weekR (baseL (highS Q) (skyOf yy)) wq).mx) (off := 0 + (wq : Int).toNat * 2 + 1) rfl rfl rfl (rg_mx0 (mixL_at _ _ hwl)) ?_
            refine qD (i := 20) rfl (by decide +kernel) (qB (v := .slice _ _ _) rfl) ?_
            refine qD (i := 21) rfl (by decide +kernel) (qB (v := .int .i64 _) rfl) ?_
            refine qD (i := 22) rfl (by decide +kernel) (wM rfl hAY rfl rfl rfl (by omega) (by omega)) ?_
            refine qL (i := 23) rfl (by decide +kernel) ?_
            refine qV (v := .slice _ _ _) rfl rfl ((cY'.ext (zP (zP (zP (zP (zP (zP (zP (zP (zP (zP (zP (zP (zP (zP EP ET) FM) FA) FD) E_ia) E_ib) E_ic) E_id) E_jj) GW) GV) E_q1) E_wq) Dlo)) 0 _ rfl) ?_
            refine qD (i := 24) rfl (by decide +kernel) (qB (v := .int .i64 _) rfl) ?_
            refine qD (i := 25) rfl (by decide +kernel) (wM rfl hr rfl rfl rfl (by omega) (by omega)) ?_
            refine qL (i := 26) rfl (by decide +kernel) ?_
            refine qV (v := .int .i64 _) rfl rfl ((cr.ext (zP (zP (zP (zP (zP (zP (zP (zP (zP (zP (zP (zP (zP (zP EP ET) FM) FA) FD) E_ia) E_ib) E_ic) E_id) E_jj) GW) GV) E_q1) E_wq) Dlo)) 0 _ rfl) ?_
            refine qD (i := 27) rfl (by decide +kernel) (pv_max rfl rfl) ?_
            refine wI (i := 28) rfl (by decide +kernel) (by decide +kernel) ?_
            refine wP (caps := []) (vs := [.int .i64 _, .int .i64 _]) rfl rfl rfl (to_ok (min (weekR (baseL (highS Q) (skyOf yy)) wq).mn yy[wq]) (max (weekR (baseL (highS Q) (skyOf yy)) wq).mx yy[wq]) klo) ?_
            rintro _ khi Dhi rfl
            refine qD (i := 29) rfl (by decide +kernel) (qM rfl rfl rfl rfl (by omega) (by omega)) ?_
            refine wI (i := 30) rfl (by decide +kernel) (by decide +kernel) ?_
            refine qJ 21 (m := 2) (v := .agg #[.int .i64 (min (weekR (baseL (highS Q) (skyOf yy)) wq).mn yy[wq]), .int .i64 (max (weekR (baseL (highS Q) (skyOf yy)) wq).mx yy[wq])]) (vs := [.int .i64 (min (weekR (baseL (highS Q) (skyOf yy)) wq).mn yy[wq]), .int .i64 (max (weekR (baseL (highS Q) (skyOf yy)) wq).mx yy[wq])]) (off := 0 + (wq : Int).toNat * 2) (c' := (mixL (weekR (highS Q ++ [skyOf yy])) (weekR (baseL (highS Q) (skyOf yy))) t.heats.length (wq + 1)).flatMap rgC) rfl rfl rfl rfl rfl rfl (Nat.ble_eq_true_of_le (by rw [wS (m := 2) (fun _ _ => rfl), zG]; omega)) rfl (by rw [rg_wr0 (by rw [zG]; exact hwl), zJ _ _ (step_get (by omega) (by omega))]) ?_
            refine qZ [_, _, _, _, _, _, _, _, _, _, _, _, _, _, _, _, _, _, _, _, _, _, _, _] rfl ?_
            refine wW rfl ?_
            refine qC rfl ?_
            refine qA (qB (v := .int .i64 _) rfl) ?_
            refine qA (qO rfl (by omega)) ?_
            refine qA (qE (v := .int .i64 _) rfl) ?_
            refine ⟨wq + 1, ⟨rfl, trivial⟩, rfl, rfl, (zP (zP E_wq Dlo) Dhi), fun h3 E3 => by first | trivial | omega | (refine ⟨?_, ?_⟩ <;> omega), by first | omega | (dsimp only; omega), ?_⟩
            repeat (first | exact qU _ _ _ | refine wB (by decide) ?_ | refine qS rfl ?_ | refine wZ (by decide +kernel) ?_)
           ·skip
            have hwe : wq = t.heats.length := by have := of_decide_eq_false hw; omega
            subst hwe
            have e1 : mixL (weekR (lowS Q ++ [skyOf x])) (weekR (baseL (lowS Q) (skyOf x))) t.heats.length t.heats.length = lowR t.heats.length (lowS Q') := by rw [mixL_all _ _ (fun i h1 h2 => by omega), hsx]; rfl
            have e2 : mixL (weekR (highS Q ++ [skyOf yy])) (weekR (baseL (highS Q) (skyOf yy))) t.heats.length t.heats.length = lowR t.heats.length (highS Q') := by rw [mixL_all _ _ (fun i h1 h2 => by omega), hsy]; rfl
            refine wU ?_
            refine ⟨(), trivial, rfl, (by rw [← e1, ← e2]; rfl), E_wq, fun h3 E3 => by first | trivial | omega | (refine ⟨?_, ?_⟩ <;> omega), ?_⟩
            repeat (first | exact zE _ _ | exact qU _ _ _ | refine wB (by decide) ?_ | refine qS rfl ?_ | refine wZ (by decide +kernel) ?_)
          ·rintro uw T15 h_uw E_uw J_uw
           refine qP [_, _, _, _, _, _, _, _, _, _, _, _, _, _, _, _, _, _, _, _, _, _, _, _] rfl ?_
           refine qF ?_
           refine qC rfl ?_
           refine qA (qE (v := .int .i64 _) rfl) ?_
           refine qF ?_
           refine qF ?_
           refine qC rfl ?_
           refine qA (qE (v := .int .i64 _) rfl) ?_
           refine qN ?_
           refine xp_loopL [39, 40, 41, 42, 43, 384, 385, 386, 387, 388, 389, 390, 391, 392, 393, 394, 395, 396, 397, 398, 399, 400, 401, 402, 403, 404, 405, 406, 407, 408, 409, 410, 411, 412, 413, 414, 415, 416, 417, 418, 419, 420, 421, 422, 423, 424, 425, 426, 427, 428, 429, 430, 431, 432, 433, 434, 435, 436, 437, 438, 439, 440, 441, 442, 443, 444, 445, 446, 447, 448, 449, 450, 451, 452, 453, 454, 455, 456, 457, 458, 459, 460, 461, 462, 463, 464, 465, 466, 467, 468, 469, 470, 471, 472, 473, 474, 475, 476, 477, 478, 479, 480, 481, 482, 483, 484, 485, 486, 487, 488, 489, 490, 491, 492, 493, 494, 495, 496, 497, 498, 499, 500] 24 (α := Nat) (fun jk => [(40, .int .i64 jk), (39, .int .i64 ((cntT t u (wk : Int) jk : Nat) : Int))]) (fun jk L => (((((((L.set 11 (some (fi, .cells (bB (mixL (fiF t Q') (fiF t Q) 2 jk)).toArray 4 (0, 0)))).set 12 (some (la, .cells (bB (mixL (laF t Q') (laF t Q) 2 jk)).toArray 4 (0, 0)))).set 13 (some (m0, .cells (bB (metB t 0 (if 0 < jk then Q' else Q))).toArray 4 (0, 0)))).set 14 (some (a0, .cells (bB (caB t 0 (if 0 < jk then Q' else Q))).toArray 4 (0, 0)))).set 15 (some (d0, .cells (bB (cdB t 0 (if 0 < jk then Q' else Q))).toArray 4 (0, 0)))).set 16 (some (m1, .cells (bB (metB t 1 (if 1 < jk then Q' else Q))).toArray 4 (0, 0)))).set 17 (some (a1, .cells (bB (caB t 1 (if 1 < jk then Q' else Q))).toArray 4 (0, 0)))).set 18 (some (d1, .cells (bB (cdB t 1 (if 1 < jk then Q' else Q))).toArray 4 (0, 0)))) (fun jk h_jk => jk ≤ t.joints.length) (fun jk => t.joints.length - jk) (0) ⟨rfl, rfl, trivial⟩ ((by rw [mixL_zero, mixL_zero]; rfl)) (Nat.zero_le _) ?_
           rintro jk T17 h_jk E_jk J_jk
           refine qP [_, _, _, _, _, _, _, _, _, _, _, _, _, _, _, _, _, _, _, _, _, _, _, _] rfl ?_
           refine qF ?_
           refine qF ?_
           refine qC rfl ?_
           refine qA (qB (v := .int .i64 _) rfl) ?_
           refine qA (qB (v := .slice _ _ _) rfl) ?_
           refine qA (wV rfl rfl) ?_
           refine qA (qK (v := .bool _) rfl) ?_
           refine wA rfl (fun hjk => ?_) (fun hjk => ?_)
           ·skip
            have hjt : jk < t.joints.length := ltI hjk
            have vl := KB.1
            rw [List.length_map, List.length_range] at vl
            have hwk6 := fl_week t u jk
            obtain ⟨gw, ow, hW, cw⟩ := RWk.at (by omega) (i := jk) (by rw [List.length_map, List.length_range]; exact hjt)
            simp only [List.getElem_map, List.getElem_range] at cw
            subst hW
            obtain ⟨gv, ov, hV, cv⟩ := RVk.at (by omega) (i := jk) (by omega)
            subst hV
            obtain ⟨Af, kf, ef, Rf⟩ : BLS _ (flB (flT t u jk)) vs[jk] := KB.2 jk _ _ (by rw [List.getElem?_map, List.getElem?_range hjt]; rfl) (List.getElem?_eq_getElem (by omega))
            rw [ef] at cv
            obtain ⟨gf, of, hF, _⟩ := Rf.at (by omega) (i := 0) (by simp [flB])
            subst hF
            rcases (show jk = 0 ∨ jk = 1 by omega) with rfl | rfl
            ·skip
             refine qP [_, _, _, _, _, _, _, _, _, _, _, _, _, some (m0, .cells (bB (metB t 0 Q)).toArray 4 (0, 0)), some (a0, .cells (bB (caB t 0 Q)).toArray 4 (0, 0)), some (d0, .cells (bB (cdB t 0 Q)).toArray 4 (0, 0)), some (m1, .cells (bB (metB t 1 Q)).toArray 4 (0, 0)), some (a1, .cells (bB (caB t 1 Q)).toArray 4 (0, 0)), some (d1, .cells (bB (cdB t 1 Q)).toArray 4 (0, 0)), _, _, _, _, _] rfl ?_
             refine qT ?_
             refine qF ?_
             refine qN ?_
             refine qF ?_
             refine zB [] rfl rfl rfl ?_
             refine qD (i := 0) rfl (by decide +kernel) (qB (v := .slice _ _ _) rfl) ?_
             refine qD (i := 1) rfl (by decide +kernel) (qB (v := .int .i64 _) rfl) ?_
             refine qD (i := 2) rfl (by decide +kernel) (qM rfl rfl rfl rfl (by omega) (by omega)) ?_
             refine qL (i := 3) rfl (by decide +kernel) ?_
             refine qV (v := .slice _ _ _) rfl rfl ((cM0.ext (zP (zP (zP (zP (zP (zP (zP (zP (zP (zP (zP FA FD) E_ia) E_ib) E_ic) E_id) E_jj) GW) GV) E_q1) E_uw) E_jk)) 0 _ rfl) ?_
             refine qD (i := 4) rfl (by decide +kernel) (qB (v := .slice _ _ _) rfl) ?_
             refine qD (i := 5) rfl (by decide +kernel) (qB (v := .int .i64 _) rfl) ?_
             refine qD (i := 6) rfl (by decide +kernel) (qM rfl rfl rfl rfl (by omega) (by omega)) ?_
             refine qL (i := 7) rfl (by decide +kernel) ?_
             refine qV (v := .int .i64 _) rfl rfl ((cw.ext (zP (zP (zP GV E_q1) E_uw) E_jk)) 0 _ rfl) ?_
             refine qD (i := 8) rfl (by decide +kernel) (qM rfl rfl rfl rfl (by omega) (by omega)) ?_
             refine wI (i := 9) rfl (by decide +kernel) (by decide +kernel) ?_
             refine qJ 13 (m := 1) (v := .bool true) (vs := [.bool true]) (off := 0 + (((flT t u 0).week : Nat) : Int).toNat * 1) (c' := bB (metB t 0 Q')) rfl rfl rfl rfl rfl rfl (Nat.ble_eq_true_of_le (by rw [bB_len, metB_len]; omega)) rfl (by rw [bB_set, metB_snoc hjt, ← hQ']) ?_
             refine qZ [_, _, _, _, _, _, _, _, _, _, _, _, _, _, _, _, _, _, _, _, _, _, _, _] rfl ?_
             refine wW rfl ?_
             refine qF ?_
             refine qC rfl ?_
             refine qA (qB (v := .slice _ _ _) rfl) ?_
             refine qA (qB (v := .int .i64 _) rfl) ?_
             refine qA (qM rfl rfl rfl rfl (by omega) (by omega)) ?_
             refine qV (v := .int .i64 _) rfl rfl ((cw.ext (zP (zP (zP GV E_q1) E_uw) E_jk)) 0 _ rfl) ?_
             refine qA (qB (v := .int .i64 _) rfl) ?_
             refine qA (qK (v := .bool _) rfl) ?_
             refine qA (qE (v := .bool _) rfl) ?_
             refine qF ?_
             refine qF ?_
             refine qC rfl ?_
             refine qA (qE (v := .int .i64 _) rfl) ?_
             refine qN ?_
             refine zN [41, 42, 405, 406, 407, 408, 409, 410, 411, 412, 413, 414, 415, 416, 417, 418, 419, 420, 421, 422] 24 (α := Nat) (fun o => [(42, .int .i64 o), (41, .bool (fstK t u 0 o))]) (fun o => _) (fun o h_o => o ≤ t.joints.length) (fun o => t.joints.length - o) (0) ⟨rfl, (by unfold fstK; rw [List.range_zero, List.all_nil, Bool.and_true]; rfl), trivial⟩ (rfl) (Nat.zero_le _) ?_
             rintro o T18 h_o E_o J_o
             refine qP [_, _, _, _, _, _, _, _, _, _, _, _, _, _, _, _, _, _, _, _, _, _, _, _] rfl ?_
             refine qF ?_
             refine qF ?_
             refine qC rfl ?_
             refine qA (qB (v := .int .i64 _) rfl) ?_
             refine qA (qB (v := .slice _ _ _) rfl) ?_
             refine qA (wV rfl rfl) ?_
             refine qA (qK (v := .bool _) rfl) ?_
             refine wA rfl (fun ho => ?_) (fun ho => ?_)
             ·skip
              have hot : o < t.joints.length := ltI ho
              obtain ⟨gw2, ow2, hW2, cw2⟩ := RWk.at (by omega) (i := o) (by rw [List.length_map, List.length_range]; exact hot)
              simp only [List.getElem_map, List.getElem_range] at cw2
              cases hW2
              rcases Bool.eq_false_or_eq_true (fstK t u 0 o) with eF | eF
              ·skip
               refine qT ?_
               refine qF ?_
               refine qN ?_
               refine zB [] rfl rfl rfl ?_
               refine qD (i := 0) rfl (by decide +kernel) (qB (v := .bool _) rfl) ?_
               refine qD (i := 1) rfl (by decide +kernel) (qB (v := .bool _) rfl) ?_
               refine qY (i := 2) rfl (by decide +kernel) rfl eF (qB (v := .slice _ _ _) rfl) ?_
               refine qY (i := 3) rfl (by decide +kernel) rfl eF (qB (v := .int .i64 _) rfl) ?_
               refine qY (i := 4) rfl (by decide +kernel) rfl eF (qM rfl rfl rfl rfl (by omega) (by omega)) ?_
               refine zM (i := 5) rfl (by decide +kernel) rfl eF ?_
               refine qV (v := .int .i64 _) rfl rfl ((cw2.ext (zP (zP (zP (zP GV E_q1) E_uw) E_jk) E_o)) 0 _ rfl) ?_
               refine qY (i := 6) rfl (by decide +kernel) rfl eF (qB (v := .slice _ _ _) rfl) ?_
               refine qY (i := 7) rfl (by decide +kernel) rfl eF (qB (v := .int .i64 _) rfl) ?_
               refine qY (i := 8) rfl (by decide +kernel) rfl eF (qM rfl rfl rfl rfl (by omega) (by omega)) ?_
               refine zM (i := 9) rfl (by decide +kernel) rfl eF ?_
               refine qV (v := .int .i64 _) rfl rfl ((cw.ext (zP (zP (zP (zP GV E_q1) E_uw) E_jk) E_o)) 0 _ rfl) ?_
               refine qY (i := 10) rfl (by decide +kernel) rfl eF (qK (v := .bool _) rfl) ?_
               refine qD (i := 11) rfl (by decide +kernel) (wX rfl eF (v := .bool _) rfl) ?_
               refine qD (i := 12) rfl (by decide +kernel) (qE (v := .bool _) rfl) ?_
               refine wW rfl ?_
               refine qC rfl ?_
               refine qA (qB (v := .int .i64 _) rfl) ?_
               refine qA (qO rfl (by omega)) ?_
               refine qA (qE (v := .int .i64 _) rfl) ?_
               refine ⟨o + 1, ⟨rfl, (by rw [fstK_succ, eF, Bool.true_and, ← ge_nat]; rfl), trivial⟩, rfl, rfl, E_o, fun h3 E3 => by first | trivial | omega | (refine ⟨?_, ?_⟩ <;> omega), by first | omega | (dsimp only; omega), ?_⟩
               repeat (first | exact qU _ _ _ | refine wB (by decide) ?_ | refine qS rfl ?_ | refine wZ (by decide +kernel) ?_)
              ·skip
               refine qT ?_
               refine qF ?_
               refine qN ?_
               refine zB [] rfl rfl rfl ?_
               refine qD (i := 0) rfl (by decide +kernel) (qB (v := .bool _) rfl) ?_
               refine qD (i := 1) rfl (by decide +kernel) (qB (v := .bool _) rfl) ?_
               refine wD (i := 2) rfl (by decide +kernel) rfl eF ?_
               refine wD (i := 3) rfl (by decide +kernel) rfl eF ?_
               refine wD (i := 4) rfl (by decide +kernel) rfl eF ?_
               refine wD (i := 5) rfl (by decide +kernel) rfl eF ?_
               refine wD (i := 6) rfl (by decide +kernel) rfl eF ?_
               refine wD (i := 7) rfl (by decide +kernel) rfl eF ?_
               refine wD (i := 8) rfl (by decide +kernel) rfl eF ?_
               refine wD (i := 9) rfl (by decide +kernel) rfl eF ?_
               refine wD (i := 10) rfl (by decide +kernel) rfl eF ?_
               refine qD (i := 11) rfl (by decide +kernel) (wY rfl eF (v := .bool _) rfl) ?_
               refine qD (i := 12) rfl (by decide +kernel) (qE (v := .bool _) rfl) ?_
               refine wW rfl ?_
               refine qC rfl ?_
               refine qA (qB (v := .int .i64 _) rfl) ?_
               refine qA (qO rfl (by omega)) ?_
               refine qA (qE (v := .int .i64 _) rfl) ?_
               refine ⟨o + 1, ⟨rfl, (by rw [fstK_succ, eF]; rfl), trivial⟩, rfl, rfl, E_o, fun h3 E3 => by first | trivial | omega | (refine ⟨?_, ?_⟩ <;> omega), by first | omega | (dsimp only; omega), ?_⟩
               repeat (first | exact qU _ _ _ | refine wB (by decide) ?_ | refine qS rfl ?_ | refine wZ (by decide +kernel) ?_)
             ·skip
              have hoe : o = t.joints.length := by have := geI ho; omega
              subst hoe
              refine wU ?_
              refine xp_cutB [423, 424, 425, 426, 427, 428, 429, 430, 431, 432, 433, 434, 435, 436, 437, 438, 439, 440, 441, 442, 443] 24 (α := Unit) (fun uz => []) (fun uz L => (L.set 11 (some (fi, .cells (bB (mixL (fiF t Q') (fiF t Q) 2 1)).toArray 4 (0, 0)))).set 12 (some (la, .cells (bB (mixL (laF t Q') (laF t Q) 2 1)).toArray 4 (0, 0)))) (fun uz h_uz => True) ?_ ?_
              ·skip
               rcases Bool.eq_false_or_eq_true (fiF t Q 0) with e1 | e1
               ·rcases Bool.eq_false_or_eq_true (laF t Q 0) with e2 | e2
                ·skip
                 refine zB [] rfl rfl rfl ?_
                 refine qD (i := 0) rfl (by decide +kernel) (qB (v := .slice _ _ _) rfl) ?_
                 refine qD (i := 1) rfl (by decide +kernel) (qB (v := .int .i64 _) rfl) ?_
                 refine qD (i := 2) rfl (by decide +kernel) (qB (v := .slice _ _ _) rfl) ?_
                 refine qD (i := 3) rfl (by decide +kernel) (qB (v := .int .i64 _) rfl) ?_
                 refine qD (i := 4) rfl (by decide +kernel) (qB (v := .slice _ _ _) rfl) ?_
                 refine qD (i := 5) rfl (by decide +kernel) (qB (v := .int .i64 _) rfl) ?_
                 refine qD (i := 6) rfl (by decide +kernel) (qM rfl rfl rfl rfl (by omega) (by omega)) ?_
                 refine qL (i := 7) rfl (by decide +kernel) ?_
                 refine qI 11 (v := .bool (fiF t Q 0)) (off := 0 + ((0 : Nat) : Int).toNat * 1) rfl rfl rfl (bB_at (mixL_at _ _ (by decide))) ?_
                 refine qD (i := 8) rfl (by decide +kernel) (qB (v := .bool _) rfl) ?_
                 refine wD (i := 9) rfl (by decide +kernel) rfl e1 ?_
                 refine qD (i := 10) rfl (by decide +kernel) (wX rfl e1 (v := .bool _) rfl) ?_
                 refine qD (i := 11) rfl (by decide +kernel) (qB (v := .slice _ _ _) rfl) ?_
                 refine qD (i := 12) rfl (by decide +kernel) (qB (v := .int .i64 _) rfl) ?_
                 refine qD (i := 13) rfl (by decide +kernel) (qM rfl rfl rfl rfl (by omega) (by omega)) ?_
                 refine qL (i := 14) rfl (by decide +kernel) ?_
                 refine qI 12 (v := .bool (laF t Q 0)) (off := 0 + ((0 : Nat) : Int).toNat * 1) rfl rfl rfl (bB_at (mixL_at _ _ (by decide))) ?_
                 refine qD (i := 15) rfl (by decide +kernel) (qB (v := .bool _) rfl) ?_
                 refine wD (i := 16) rfl (by decide +kernel) rfl e2 ?_
                 refine wD (i := 17) rfl (by decide +kernel) rfl e2 ?_
                 refine qD (i := 18) rfl (by decide +kernel) (wX rfl e2 (v := .bool _) rfl) ?_
                 refine qD (i := 19) rfl (by decide +kernel) (qM rfl rfl rfl rfl (by omega) (by omega)) ?_
                 refine wI (i := 20) rfl (by decide +kernel) (by decide +kernel) ?_
                 refine qJ 11 (m := 1) (v := .bool true) (vs := [.bool true]) (off := 0 + ((0 : Nat) : Int).toNat * 1) (c' := bB (mixL (fiF t Q') (fiF t Q) 2 1)) rfl rfl rfl rfl rfl rfl (Nat.ble_eq_true_of_le (by rw [bB_len, zG]; decide)) rfl (by rw [bB_set, zJ _ _ (by rw [hQ', ← fi_or hjt, e1]; rfl)]) ?_
                 refine qZ [_, _, _, _, _, _, _, _, _, _, _, _, _, _, _, _, _, _, _, _, _, _, _, _] rfl ?_
                 refine qD (i := 21) rfl (by decide +kernel) (qM rfl rfl rfl rfl (by omega) (by omega)) ?_
                 refine wI (i := 22) rfl (by decide +kernel) (by decide +kernel) ?_
                 refine qJ 12 (m := 1) (v := .bool true) (vs := [.bool true]) (off := 0 + ((0 : Nat) : Int).toNat * 1) (c' := bB (mixL (laF t Q') (laF t Q) 2 1)) rfl rfl rfl rfl rfl rfl (Nat.ble_eq_true_of_le (by rw [bB_len, zG]; decide)) rfl (by rw [bB_set, zJ _ _ (by rw [hQ', ← la_or hjt, e2]; rfl)]) ?_
                 refine qZ [_, _, _, _, _, _, _, _, _, _, _, _, _, _, _, _, _, _, _, _, _, _, _, _] rfl ?_
                 refine wW rfl ?_
                 refine ⟨(), trivial, rfl, rfl, (Ext.refl _), fun h3 E3 => by first | trivial | omega | (refine ⟨?_, ?_⟩ <;> omega), ?_⟩
                 repeat (first | exact zE _ _ | exact qU _ _ _ | refine wB (by decide) ?_ | refine qS rfl ?_ | refine wZ (by decide +kernel) ?_)
                ·skip
                 refine zB [] rfl rfl rfl ?_
                 refine qD (i := 0) rfl (by decide +kernel) (qB (v := .slice _ _ _) rfl) ?_
                 refine qD (i := 1) rfl (by decide +kernel) (qB (v := .int .i64 _) rfl) ?_
                 refine qD (i := 2) rfl (by decide +kernel) (qB (v := .slice _ _ _) rfl) ?_
                 refine qD (i := 3) rfl (by decide +kernel) (qB (v := .int .i64 _) rfl) ?_
                 refine qD (i := 4) rfl (by decide +kernel) (qB (v := .slice _ _ _) rfl) ?_
                 refine qD (i := 5) rfl (by decide +kernel) (qB (v := .int .i64 _) rfl) ?_
                 refine qD (i := 6) rfl (by decide +kernel) (qM rfl rfl rfl rfl (by omega) (by omega)) ?_
                 refine qL (i := 7) rfl (by decide +kernel) ?_
                 refine qI 11 (v := .bool (fiF t Q 0)) (off := 0 + ((0 : Nat) : Int).toNat * 1) rfl rfl rfl (bB_at (mixL_at _ _ (by decide))) ?_
                 refine qD (i := 8) rfl (by decide +kernel) (qB (v := .bool _) rfl) ?_
                 refine wD (i := 9) rfl (by decide +kernel) rfl e1 ?_
                 refine qD (i := 10) rfl (by decide +kernel) (wX rfl e1 (v := .bool _) rfl) ?_
                 refine qD (i := 11) rfl (by decide +kernel) (qB (v := .slice _ _ _) rfl) ?_
                 refine qD (i := 12) rfl (by decide +kernel) (qB (v := .int .i64 _) rfl) ?_
                 refine qD (i := 13) rfl (by decide +kernel) (qM rfl rfl rfl rfl (by omega) (by omega)) ?_
                 refine qL (i := 14) rfl (by decide +kernel) ?_
                 refine qI 12 (v := .bool (laF t Q 0)) (off := 0 + ((0 : Nat) : Int).toNat * 1) rfl rfl rfl (bB_at (mixL_at _ _ (by decide))) ?_
                 refine qD (i := 15) rfl (by decide +kernel) (qB (v := .bool _) rfl) ?_
                 refine qY (i := 16) rfl (by decide +kernel) rfl e2 (qB (v := .bool _) rfl) ?_
                 refine qY (i := 17) rfl (by decide +kernel) rfl e2 (qK (v := .bool _) rfl) ?_
                 refine qD (i := 18) rfl (by decide +kernel) (wY rfl e2 (v := .bool _) rfl) ?_
                 refine qD (i := 19) rfl (by decide +kernel) (qM rfl rfl rfl rfl (by omega) (by omega)) ?_
                 refine wI (i := 20) rfl (by decide +kernel) (by decide +kernel) ?_
                 refine qJ 11 (m := 1) (v := .bool true) (vs := [.bool true]) (off := 0 + ((0 : Nat) : Int).toNat * 1) (c' := bB (mixL (fiF t Q') (fiF t Q) 2 1)) rfl rfl rfl rfl rfl rfl (Nat.ble_eq_true_of_le (by rw [bB_len, zG]; decide)) rfl (by rw [bB_set, zJ _ _ (by rw [hQ', ← fi_or hjt, e1]; rfl)]) ?_
                 refine qZ [_, _, _, _, _, _, _, _, _, _, _, _, _, _, _, _, _, _, _, _, _, _, _, _] rfl ?_
                 refine qD (i := 21) rfl (by decide +kernel) (qM rfl rfl rfl rfl (by omega) (by omega)) ?_
                 refine wI (i := 22) rfl (by decide +kernel) (by decide +kernel) ?_
                 refine qJ 12 (m := 1) (v := .bool (!fstT t u 0)) (vs := [.bool (!fstT t u 0)]) (off := 0 + ((0 : Nat) : Int).toNat * 1) (c' := bB (mixL (laF t Q') (laF t Q) 2 1)) rfl rfl rfl rfl rfl rfl (Nat.ble_eq_true_of_le (by rw [bB_len, zG]; decide)) rfl (by rw [bB_set, zJ _ _ (by rw [hQ', ← la_or hjt, e2]; rfl)]) ?_
                 refine qZ [_, _, _, _, _, _, _, _, _, _, _, _, _, _, _, _, _, _, _, _, _, _, _, _] rfl ?_
                 refine wW rfl ?_
                 refine ⟨(), trivial, rfl, rfl, (Ext.refl _), fun h3 E3 => by first | trivial | omega | (refine ⟨?_, ?_⟩ <;> omega), ?_⟩
                 repeat (first | exact zE _ _ | exact qU _ _ _ | refine wB (by decide) ?_ | refine qS rfl ?_ | refine wZ (by decide +kernel) ?_)
               ·rcases Bool.eq_false_or_eq_true (laF t Q 0) with e2 | e2
                ·skip
                 refine zB [] rfl rfl rfl ?_
                 refine qD (i := 0) rfl (by decide +kernel) (qB (v := .slice _ _ _) rfl) ?_
                 refine qD (i := 1) rfl (by decide +kernel) (qB (v := .int .i64 _) rfl) ?_
                 refine qD (i := 2) rfl (by decide +kernel) (qB (v := .slice _ _ _) rfl) ?_
                 refine qD (i := 3) rfl (by decide +kernel) (qB (v := .int .i64 _) rfl) ?_
                 refine qD (i := 4) rfl (by decide +kernel) (qB (v := .slice _ _ _) rfl) ?_
                 refine qD (i := 5) rfl (by decide +kernel) (qB (v := .int .i64 _) rfl) ?_
                 refine qD (i := 6) rfl (by decide +kernel) (qM rfl rfl rfl rfl (by omega) (by omega)) ?_
                 refine qL (i := 7) rfl (by decide +kernel) ?_
                 refine qI 11 (v := .bool (fiF t Q 0)) (off := 0 + ((0 : Nat) : Int).toNat * 1) rfl rfl rfl (bB_at (mixL_at _ _ (by decide))) ?_
                 refine qD (i := 8) rfl (by decide +kernel) (qB (v := .bool _) rfl) ?_
                 refine qY (i := 9) rfl (by decide +kernel) rfl e1 (qB (v := .bool _) rfl) ?_
                 refine qD (i := 10) rfl (by decide +kernel) (wY rfl e1 (v := .bool _) rfl) ?_
                 refine qD (i := 11) rfl (by decide +kernel) (qB (v := .slice _ _ _) rfl) ?_
                 refine qD (i := 12) rfl (by decide +kernel) (qB (v := .int .i64 _) rfl) ?_
                 refine qD (i := 13) rfl (by decide +kernel) (qM rfl rfl rfl rfl (by omega) (by omega)) ?_
                 refine qL (i := 14) rfl (by decide +kernel) ?_
                 refine qI 12 (v := .bool (laF t Q 0)) (off := 0 + ((0 : Nat) : Int).toNat * 1) rfl rfl rfl (bB_at (mixL_at _ _ (by decide))) ?_
                 refine qD (i := 15) rfl (by decide +kernel) (qB (v := .bool _) rfl) ?_
                 refine wD (i := 16) rfl (by decide +kernel) rfl e2 ?_
                 refine wD (i := 17) rfl (by decide +kernel) rfl e2 ?_
                 refine qD (i := 18) rfl (by decide +kernel) (wX rfl e2 (v := .bool _) rfl) ?_
                 refine qD (i := 19) rfl (by decide +kernel) (qM rfl rfl rfl rfl (by omega) (by omega)) ?_
                 refine wI (i := 20) rfl (by decide +kernel) (by decide +kernel) ?_
                 refine qJ 11 (m := 1) (v := .bool (fstT t u 0)) (vs := [.bool (fstT t u 0)]) (off := 0 + ((0 : Nat) : Int).toNat * 1) (c' := bB (mixL (fiF t Q') (fiF t Q) 2 1)) rfl rfl rfl rfl rfl rfl (Nat.ble_eq_true_of_le (by rw [bB_len, zG]; decide)) rfl (by rw [bB_set, zJ _ _ (by rw [hQ', ← fi_or hjt, e1]; rfl)]) ?_
                 refine qZ [_, _, _, _, _, _, _, _, _, _, _, _, _, _, _, _, _, _, _, _, _, _, _, _] rfl ?_
                 refine qD (i := 21) rfl (by decide +kernel) (qM rfl rfl rfl rfl (by omega) (by omega)) ?_
                 refine wI (i := 22) rfl (by decide +kernel) (by decide +kernel) ?_
                 refine qJ 12 (m := 1) (v := .bool true) (vs := [.bool true]) (off := 0 + ((0 : Nat) : Int).toNat * 1) (c' := bB (mixL (laF t Q') (laF t Q) 2 1)) rfl rfl rfl rfl rfl rfl (Nat.ble_eq_true_of_le (by rw [bB_len, zG]; decide)) rfl (by rw [bB_set, zJ _ _ (by rw [hQ', ← la_or hjt, e2]; rfl)]) ?_
                 refine qZ [_, _, _, _, _, _, _, _, _, _, _, _, _, _, _, _, _, _, _, _, _, _, _, _] rfl ?_
                 refine wW rfl ?_
                 refine ⟨(), trivial, rfl, rfl, (Ext.refl _), fun h3 E3 => by first | trivial | omega | (refine ⟨?_, ?_⟩ <;> omega), ?_⟩
                 repeat (first | exact zE _ _ | exact qU _ _ _ | refine wB (by decide) ?_ | refine qS rfl ?_ | refine wZ (by decide +kernel) ?_)
                ·skip
                 refine zB [] rfl rfl rfl ?_
                 refine qD (i := 0) rfl (by decide +kernel) (qB (v := .slice _ _ _) rfl) ?_
                 refine qD (i := 1) rfl (by decide +kernel) (qB (v := .int .i64 _) rfl) ?_
                 refine qD (i := 2) rfl (by decide +kernel) (qB (v := .slice _ _ _) rfl) ?_
                 refine qD (i := 3) rfl (by decide +kernel) (qB (v := .int .i64 _) rfl) ?_
                 refine qD (i := 4) rfl (by decide +kernel) (qB (v := .slice _ _ _) rfl) ?_
                 refine qD (i := 5) rfl (by decide +kernel) (qB (v := .int .i64 _) rfl) ?_
                 refine qD (i := 6) rfl (by decide +kernel) (qM rfl rfl rfl rfl (by omega) (by omega)) ?_
                 refine qL (i := 7) rfl (by decide +kernel) ?_
                 refine qI 11 (v := .bool (fiF t Q 0)) (off := 0 + ((0 : Nat) : Int).toNat * 1) rfl rfl rfl (bB_at (mixL_at _ _ (by decide))) ?_
                 refine qD (i := 8) rfl (by decide +kernel) (qB (v := .bool _) rfl) ?_
                 refine qY (i := 9) rfl (by decide +kernel) rfl e1 (qB (v := .bool _) rfl) ?_
                 refine qD (i := 10) rfl (by decide +kernel) (wY rfl e1 (v := .bool _) rfl) ?_
                 refine qD (i := 11) rfl (by decide +kernel) (qB (v := .slice _ _ _) rfl) ?_
                 refine qD (i := 12) rfl (by decide +kernel) (qB (v := .int .i64 _) rfl) ?_
                 refine qD (i := 13) rfl (by decide +kernel) (qM rfl rfl rfl rfl (by omega) (by omega)) ?_
                 refine qL (i := 14) rfl (by decide +kernel) ?_
                 refine qI 12 (v := .bool (laF t Q 0)) (off := 0 + ((0 : Nat) : Int).toNat * 1) rfl rfl rfl (bB_at (mixL_at _ _ (by decide))) ?_
                 refine qD (i := 15) rfl (by decide +kernel) (qB (v := .bool _) rfl) ?_
                 refine qY (i := 16) rfl (by decide +kernel) rfl e2 (qB (v := .bool _) rfl) ?_
                 refine qY (i := 17) rfl (by decide +kernel) rfl e2 (qK (v := .bool _) rfl) ?_
                 refine qD (i := 18) rfl (by decide +kernel) (wY rfl e2 (v := .bool _) rfl) ?_
                 refine qD (i := 19) rfl (by decide +kernel) (qM rfl rfl rfl rfl (by omega) (by omega)) ?_
                 refine wI (i := 20) rfl (by decide +kernel) (by decide +kernel) ?_
                 refine qJ 11 (m := 1) (v := .bool (fstT t u 0)) (vs := [.bool (fstT t u 0)]) (off := 0 + ((0 : Nat) : Int).toNat * 1) (c' := bB (mixL (fiF t Q') (fiF t Q) 2 1)) rfl rfl rfl rfl rfl rfl (Nat.ble_eq_true_of_le (by rw [bB_len, zG]; decide)) rfl (by rw [bB_set, zJ _ _ (by rw [hQ', ← fi_or hjt, e1]; rfl)]) ?_
                 refine qZ [_, _, _, _, _, _, _, _, _, _, _, _, _, _, _, _, _, _, _, _, _, _, _, _] rfl ?_
                 refine qD (i := 21) rfl (by decide +kernel) (qM rfl rfl rfl rfl (by omega) (by omega)) ?_
                 refine wI (i := 22) rfl (by decide +kernel) (by decide +kernel) ?_
                 refine qJ 12 (m := 1) (v := .bool (!fstT t u 0)) (vs := [.bool (!fstT t u 0)]) (off := 0 + ((0 : Nat) : Int).toNat * 1) (c' := bB (mixL (laF t Q') (laF t Q) 2 1)) rfl rfl rfl rfl rfl rfl (Nat.ble_eq_true_of_le (by rw [bB_len, zG]; decide)) rfl (by rw [bB_set, zJ _ _ (by rw [hQ', ← la_or hjt, e2]; rfl)]) ?_
                 refine qZ [_, _, _, _, _, _, _, _, _, _, _, _, _, _, _, _, _, _, _, _, _, _, _, _] rfl ?_
                 refine wW rfl ?_
                 refine ⟨(), trivial, rfl, rfl, (Ext.refl _), fun h3 E3 => by first | trivial | omega | (refine ⟨?_, ?_⟩ <;> omega), ?_⟩
                 repeat (first | exact zE _ _ | exact qU _ _ _ | refine wB (by decide) ?_ | refine qS rfl ?_ | refine wZ (by decide +kernel) ?_)
              ·rintro uz T19 h_uz E_uz J_uz
               refine qP [_, _, _, _, _, _, _, _, _, _, _, _, _, _, _, _, _, _, _, _, _, _, _, _] rfl ?_
               refine qF ?_
               refine qF ?_
               refine qC rfl ?_
               refine qA (qE (v := .int .i64 _) rfl) ?_
               refine qN ?_
               refine xp_loopL [43, 444, 445, 446, 447, 448, 449, 450, 451, 452, 453, 454, 455, 456, 457, 458, 459, 460, 461, 462, 463, 464, 465, 466, 467, 468, 469, 470, 471, 472, 473, 474, 475, 476, 477, 478, 479, 480, 481, 482, 483, 484, 485, 486, 487, 488, 489, 490, 491, 492] 24 (α := Nat) (fun xk => [(43, .int .i64 xk)]) (fun xk L => (L.set 14 (some (a0, .cells (bB (mixL (caF t 0 Q') (caF t 0 Q) 3 xk)).toArray 4 (0, 0)))).set 15 (some (d0, .cells (bB (mixL (cdF t 0 Q') (cdF t 0 Q) 3 xk)).toArray 4 (0, 0)))) (fun xk h_xk => xk ≤ 3) (fun xk => 3 - xk) (0) ⟨rfl, trivial⟩ ((by rw [mixL_zero, mixL_zero]; rfl)) (Nat.zero_le _) ?_
               rintro xk T20 h_xk E_xk J_xk
               refine qP [_, _, _, _, _, _, _, _, _, _, _, _, _, _, _, _, _, _, _, _, _, _, _, _] rfl ?_
               refine qF ?_
               refine qF ?_
               refine qC rfl ?_
               refine qA (qB (v := .int .i64 _) rfl) ?_
               refine qA (qK (v := .bool _) rfl) ?_
               refine wA rfl (fun hxk => ?_) (fun hxk => ?_)
               ·skip
                have hx3 : xk < 3 := by have := of_decide_eq_true hxk; omega
                obtain ⟨hfl, hfe⟩ := flB_get (flT t u 0) xk hx3
                obtain ⟨gf2, of2, hF2, cf⟩ := Rf.at (by omega) (i := xk) hfl
                cases hF2
                rw [hfe] at cf
                rcases Bool.eq_false_or_eq_true (caF t 0 Q xk) with e1 | e1
                ·rcases Bool.eq_false_or_eq_true (cdF t 0 Q xk) with e2 | e2
                 ·skip
                  refine qT ?_
                  refine qF ?_
                  refine qN ?_
                  refine zB [] rfl rfl rfl ?_
                  refine qD (i := 0) rfl (by decide +kernel) (qB (v := .slice _ _ _) rfl) ?_
                  refine qD (i := 1) rfl (by decide +kernel) (qB (v := .int .i64 _) rfl) ?_
                  refine qD (i := 2) rfl (by decide +kernel) (qM rfl rfl rfl rfl (by omega) (by omega)) ?_
                  refine qL (i := 3) rfl (by decide +kernel) ?_
                  refine qV (v := .slice _ _ _) rfl rfl ((cA0.ext (zP (zP (zP (zP (zP (zP (zP (zP (zP (zP (zP (zP (zP FD E_ia) E_ib) E_ic) E_id) E_jj) GW) GV) E_q1) E_uw) E_jk) E_o) E_uz) E_xk)) 0 _ rfl) ?_
                  refine qD (i := 4) rfl (by decide +kernel) (qB (v := .int .i64 _) rfl) ?_
                  refine qD (i := 5) rfl (by decide +kernel) (qB (v := .slice _ _ _) rfl) ?_
                  refine qD (i := 6) rfl (by decide +kernel) (qB (v := .int .i64 _) rfl) ?_
                  refine qD (i := 7) rfl (by decide +kernel) (qM rfl rfl rfl rfl (by omega) (by omega)) ?_
                  refine qL (i := 8) rfl (by decide +kernel) ?_
                  refine qV (v := .slice _ _ _) rfl rfl ((cD0.ext (zP (zP (zP (zP (zP (zP (zP (zP (zP (zP (zP (zP E_ia E_ib) E_ic) E_id) E_jj) GW) GV) E_q1) E_uw) E_jk) E_o) E_uz) E_xk)) 0 _ rfl) ?_
                  refine qD (i := 9) rfl (by decide +kernel) (qB (v := .int .i64 _) rfl) ?_
                  refine qD (i := 10) rfl (by decide +kernel) (qB (v := .slice _ _ _) rfl) ?_
                  refine qD (i := 11) rfl (by decide +kernel) (qB (v := .int .i64 _) rfl) ?_
                  refine qD (i := 12) rfl (by decide +kernel) (qM rfl rfl rfl rfl (by omega) (by omega)) ?_
                  refine qL (i := 13) rfl (by decide +kernel) ?_
                  refine qV (v := .slice _ _ _) rfl rfl ((cA0.ext (zP (zP (zP (zP (zP (zP (zP (zP (zP (zP (zP (zP (zP FD E_ia) E_ib) E_ic) E_id) E_jj) GW) GV) E_q1) E_uw) E_jk) E_o) E_uz) E_xk)) 0 _ rfl) ?_
                  refine qD (i := 14) rfl (by decide +kernel) (qB (v := .int .i64 _) rfl) ?_
                  refine qD (i := 15) rfl (by decide +kernel) (qM rfl rfl rfl rfl (by omega) (by omega)) ?_
                  refine qL (i := 16) rfl (by decide +kernel) ?_
                  refine qI 14 (v := .bool (caF t 0 Q xk)) (off := 0 + (xk : Int).toNat * 1) rfl rfl rfl (bB_at (mixL_at _ _ hx3)) ?_
                  refine qD (i := 17) rfl (by decide +kernel) (qB (v := .bool _) rfl) ?_
                  refine wD (i := 18) rfl (by decide +kernel) rfl e1 ?_
                  refine wD (i := 19) rfl (by decide +kernel) rfl e1 ?_
                  refine wD (i := 20) rfl (by decide +kernel) rfl e1 ?_
                  refine wD (i := 21) rfl (by decide +kernel) rfl e1 ?_
                  refine wD (i := 22) rfl (by decide +kernel) rfl e1 ?_
                  refine wD (i := 23) rfl (by decide +kernel) rfl e1 ?_
                  refine wD (i := 24) rfl (by decide +kernel) rfl e1 ?_
                  refine qD (i := 25) rfl (by decide +kernel) (wX rfl e1 (v := .bool _) rfl) ?_
                  refine qD (i := 26) rfl (by decide +kernel) (qB (v := .slice _ _ _) rfl) ?_
                  refine qD (i := 27) rfl (by decide +kernel) (qB (v := .int .i64 _) rfl) ?_
                  refine qD (i := 28) rfl (by decide +kernel) (qM rfl rfl rfl rfl (by omega) (by omega)) ?_
                  refine qL (i := 29) rfl (by decide +kernel) ?_
                  refine qV (v := .slice _ _ _) rfl rfl ((cD0.ext (zP (zP (zP (zP (zP (zP (zP (zP (zP (zP (zP (zP E_ia E_ib) E_ic) E_id) E_jj) GW) GV) E_q1) E_uw) E_jk) E_o) E_uz) E_xk)) 0 _ rfl) ?_
                  refine qD (i := 30) rfl (by decide +kernel) (qB (v := .int .i64 _) rfl) ?_
                  refine qD (i := 31) rfl (by decide +kernel) (qM rfl rfl rfl rfl (by omega) (by omega)) ?_
                  refine qL (i := 32) rfl (by decide +kernel) ?_
                  refine qI 15 (v := .bool (cdF t 0 Q xk)) (off := 0 + (xk : Int).toNat * 1) rfl rfl rfl (bB_at (mixL_at _ _ hx3)) ?_
                  refine qD (i := 33) rfl (by decide +kernel) (qB (v := .bool _) rfl) ?_
                  refine wD (i := 34) rfl (by decide +kernel) rfl e2 ?_
                  refine wD (i := 35) rfl (by decide +kernel) rfl e2 ?_
                  refine wD (i := 36) rfl (by decide +kernel) rfl e2 ?_
                  refine wD (i := 37) rfl (by decide +kernel) rfl e2 ?_
                  refine wD (i := 38) rfl (by decide +kernel) rfl e2 ?_
                  refine wD (i := 39) rfl (by decide +kernel) rfl e2 ?_
                  refine wD (i := 40) rfl (by decide +kernel) rfl e2 ?_
                  refine wD (i := 41) rfl (by decide +kernel) rfl e2 ?_
                  refine qD (i := 42) rfl (by decide +kernel) (wX rfl e2 (v := .bool _) rfl) ?_
                  refine qD (i := 43) rfl (by decide +kernel) (qM rfl rfl rfl rfl (by omega) (by omega)) ?_
                  refine wI (i := 44) rfl (by decide +kernel) (by decide +kernel) ?_
                  refine qJ 14 (m := 1) (v := .bool true) (vs := [.bool true]) (off := 0 + (xk : Int).toNat * 1) (c' := bB (mixL (caF t 0 Q') (caF t 0 Q) 3 (xk + 1))) rfl rfl rfl rfl rfl rfl (Nat.ble_eq_true_of_le (by rw [bB_len, zG]; omega)) rfl (by rw [bB_set, zJ _ _ (by rw [hQ', ← ca_or hjt, e1]; rfl)]) ?_
                  refine qZ [_, _, _, _, _, _, _, _, _, _, _, _, _, _, _, _, _, _, _, _, _, _, _, _] rfl ?_
                  refine qD (i := 45) rfl (by decide +kernel) (qM rfl rfl rfl rfl (by omega) (by omega)) ?_
                  refine wI (i := 46) rfl (by decide +kernel) (by decide +kernel) ?_
                  refine qJ 15 (m := 1) (v := .bool true) (vs := [.bool true]) (off := 0 + (xk : Int).toNat * 1) (c' := bB (mixL (cdF t 0 Q') (cdF t 0 Q) 3 (xk + 1))) rfl rfl rfl rfl rfl rfl (Nat.ble_eq_true_of_le (by rw [bB_len, zG]; omega)) rfl (by rw [bB_set, zJ _ _ (by rw [hQ', ← cd_or hjt, e2]; rfl)]) ?_
                  refine qZ [_, _, _, _, _, _, _, _, _, _, _, _, _, _, _, _, _, _, _, _, _, _, _, _] rfl ?_
                  refine wW rfl ?_
                  refine qC rfl ?_
                  refine qA (qB (v := .int .i64 _) rfl) ?_
                  refine qA (qO rfl (by omega)) ?_
                  refine qA (qE (v := .int .i64 _) rfl) ?_
                  refine ⟨xk + 1, ⟨rfl, trivial⟩, rfl, rfl, E_xk, fun h3 E3 => by first | trivial | omega | (refine ⟨?_, ?_⟩ <;> omega), by first | omega | (dsimp only; omega), ?_⟩
                  repeat (first | exact qU _ _ _ | refine wB (by decide) ?_ | refine qS rfl ?_ | refine wZ (by decide +kernel) ?_)
                 ·skip
                  refine qT ?_
                  refine qF ?_
                  refine qN ?_
                  refine zB [] rfl rfl rfl ?_
                  refine qD (i := 0) rfl (by decide +kernel) (qB (v := .slice _ _ _) rfl) ?_
                  refine qD (i := 1) rfl (by decide +kernel) (qB (v := .int .i64 _) rfl) ?_
                  refine qD (i := 2) rfl (by decide +kernel) (qM rfl rfl rfl rfl (by omega) (by omega)) ?_
                  refine qL (i := 3) rfl (by decide +kernel) ?_
                  refine qV (v := .slice _ _ _) rfl rfl ((cA0.ext (zP (zP (zP (zP (zP (zP (zP (zP (zP (zP (zP (zP (zP FD E_ia) E_ib) E_ic) E_id) E_jj) GW) GV) E_q1) E_uw) E_jk) E_o) E_uz) E_xk)) 0 _ rfl) ?_
                  refine qD (i := 4) rfl (by decide +kernel) (qB (v := .int .i64 _) rfl) ?_
                  refine qD (i := 5) rfl (by decide +kernel) (qB (v := .slice _ _ _) rfl) ?_
                  refine qD (i := 6) rfl (by decide +kernel) (qB (v := .int .i64 _) rfl) ?_
                  refine qD (i := 7) rfl (by decide +kernel) (qM rfl rfl rfl rfl (by omega) (by omega)) ?_
                  refine qL (i := 8) rfl (by decide +kernel) ?_
                  refine qV (v := .slice _ _ _) rfl rfl ((cD0.ext (zP (zP (zP (zP (zP (zP (zP (zP (zP (zP (zP (zP E_ia E_ib) E_ic) E_id) E_jj) GW) GV) E_q1) E_uw) E_jk) E_o) E_uz) E_xk)) 0 _ rfl) ?_
                  refine qD (i := 9) rfl (by decide +kernel) (qB (v := .int .i64 _) rfl) ?_
                  refine qD (i := 10) rfl (by decide +kernel) (qB (v := .slice _ _ _) rfl) ?_
                  refine qD (i := 11) rfl (by decide +kernel) (qB (v := .int .i64 _) rfl) ?_
                  refine qD (i := 12) rfl (by decide +kernel) (qM rfl rfl rfl rfl (by omega) (by omega)) ?_
                  refine qL (i := 13) rfl (by decide +kernel) ?_
                  refine qV (v := .slice _ _ _) rfl rfl ((cA0.ext (zP (zP (zP (zP (zP (zP (zP (zP (zP (zP (zP (zP (zP FD E_ia) E_ib) E_ic) E_id) E_jj) GW) GV) E_q1) E_uw) E_jk) E_o) E_uz) E_xk)) 0 _ rfl) ?_
                  refine qD (i := 14) rfl (by decide +kernel) (qB (v := .int .i64 _) rfl) ?_
                  refine qD (i := 15) rfl (by decide +kernel) (qM rfl rfl rfl rfl (by omega) (by omega)) ?_
                  refine qL (i := 16) rfl (by decide +kernel) ?_
                  refine qI 14 (v := .bool (caF t 0 Q xk)) (off := 0 + (xk : Int).toNat * 1) rfl rfl rfl (bB_at (mixL_at _ _ hx3)) ?_
                  refine qD (i := 17) rfl (by decide +kernel) (qB (v := .bool _) rfl) ?_
                  refine wD (i := 18) rfl (by decide +kernel) rfl e1 ?_
                  refine wD (i := 19) rfl (by decide +kernel) rfl e1 ?_
                  refine wD (i := 20) rfl (by decide +kernel) rfl e1 ?_
                  refine wD (i := 21) rfl (by decide +kernel) rfl e1 ?_
                  refine wD (i := 22) rfl (by decide +kernel) rfl e1 ?_
                  refine wD (i := 23) rfl (by decide +kernel) rfl e1 ?_
                  refine wD (i := 24) rfl (by decide +kernel) rfl e1 ?_
                  refine qD (i := 25) rfl (by decide +kernel) (wX rfl e1 (v := .bool _) rfl) ?_
                  refine qD (i := 26) rfl (by decide +kernel) (qB (v := .slice _ _ _) rfl) ?_
                  refine qD (i := 27) rfl (by decide +kernel) (qB (v := .int .i64 _) rfl) ?_
                  refine qD (i := 28) rfl (by decide +kernel) (qM rfl rfl rfl rfl (by omega) (by omega)) ?_
                  refine qL (i := 29) rfl (by decide +kernel) ?_
                  refine qV (v := .slice _ _ _) rfl rfl ((cD0.ext (zP (zP (zP (zP (zP (zP (zP (zP (zP (zP (zP (zP E_ia E_ib) E_ic) E_id) E_jj) GW) GV) E_q1) E_uw) E_jk) E_o) E_uz) E_xk)) 0 _ rfl) ?_
                  refine qD (i := 30) rfl (by decide +kernel) (qB (v := .int .i64 _) rfl) ?_
                  refine qD (i := 31) rfl (by decide +kernel) (qM rfl rfl rfl rfl (by omega) (by omega)) ?_
                  refine qL (i := 32) rfl (by decide +kernel) ?_
                  refine qI 15 (v := .bool (cdF t 0 Q xk)) (off := 0 + (xk : Int).toNat * 1) rfl rfl rfl (bB_at (mixL_at _ _ hx3)) ?_
                  refine qD (i := 33) rfl (by decide +kernel) (qB (v := .bool _) rfl) ?_
                  refine qY (i := 34) rfl (by decide +kernel) rfl e2 (qB (v := .slice _ _ _) rfl) ?_
                  refine qY (i := 35) rfl (by decide +kernel) rfl e2 (qB (v := .int .i64 _) rfl) ?_
                  refine qY (i := 36) rfl (by decide +kernel) rfl e2 (qM rfl rfl rfl rfl (by omega) (by omega)) ?_
                  refine zM (i := 37) rfl (by decide +kernel) rfl e2 ?_
                  refine qV (v := .slice _ _ _) rfl rfl ((cv.ext (zP (zP (zP (zP (zP E_q1 E_uw) E_jk) E_o) E_uz) E_xk)) 0 _ rfl) ?_
                  refine qY (i := 38) rfl (by decide +kernel) rfl e2 (qB (v := .int .i64 _) rfl) ?_
                  refine qY (i := 39) rfl (by decide +kernel) rfl e2 (qM rfl rfl rfl rfl (by omega) (by omega)) ?_
                  refine zM (i := 40) rfl (by decide +kernel) rfl e2 ?_
                  refine qV (v := .bool _) rfl rfl ((cf.ext (zP (zP (zP (zP (zP (zP (zP GW GV) E_q1) E_uw) E_jk) E_o) E_uz) E_xk)) 0 _ rfl) ?_
                  refine qY (i := 41) rfl (by decide +kernel) rfl e2 (qK (v := .bool _) rfl) ?_
                  refine qD (i := 42) rfl (by decide +kernel) (wY rfl e2 (v := .bool _) rfl) ?_
                  refine qD (i := 43) rfl (by decide +kernel) (qM rfl rfl rfl rfl (by omega) (by omega)) ?_
                  refine wI (i := 44) rfl (by decide +kernel) (by decide +kernel) ?_
                  refine qJ 14 (m := 1) (v := .bool true) (vs := [.bool true]) (off := 0 + (xk : Int).toNat * 1) (c' := bB (mixL (caF t 0 Q') (caF t 0 Q) 3 (xk + 1))) rfl rfl rfl rfl rfl rfl (Nat.ble_eq_true_of_le (by rw [bB_len, zG]; omega)) rfl (by rw [bB_set, zJ _ _ (by rw [hQ', ← ca_or hjt, e1]; rfl)]) ?_
                  refine qZ [_, _, _, _, _, _, _, _, _, _, _, _, _, _, _, _, _, _, _, _, _, _, _, _] rfl ?_
                  refine qD (i := 45) rfl (by decide +kernel) (qM rfl rfl rfl rfl (by omega) (by omega)) ?_
                  refine wI (i := 46) rfl (by decide +kernel) (by decide +kernel) ?_
                  refine qJ 15 (m := 1) (v := .bool (!(flT t u 0).causes.testBit xk)) (vs := [.bool (!(flT t u 0).causes.testBit xk)]) (off := 0 + (xk : Int).toNat * 1) (c' := bB (mixL (cdF t 0 Q') (cdF t 0 Q) 3 (xk + 1))) rfl rfl rfl rfl rfl rfl (Nat.ble_eq_true_of_le (by rw [bB_len, zG]; omega)) rfl (by rw [bB_set, zJ _ _ (by rw [hQ', ← cd_or hjt, e2]; rfl)]) ?_
                  refine qZ [_, _, _, _, _, _, _, _, _, _, _, _, _, _, _, _, _, _, _, _, _, _, _, _] rfl ?_
                  refine wW rfl ?_
                  refine qC rfl ?_
                  refine qA (qB (v := .int .i64 _) rfl) ?_
                  refine qA (qO rfl (by omega)) ?_
                  refine qA (qE (v := .int .i64 _) rfl) ?_
                  refine ⟨xk + 1, ⟨rfl, trivial⟩, rfl, rfl, E_xk, fun h3 E3 => by first | trivial | omega | (refine ⟨?_, ?_⟩ <;> omega), by first | omega | (dsimp only; omega), ?_⟩
                  repeat (first | exact qU _ _ _ | refine wB (by decide) ?_ | refine qS rfl ?_ | refine wZ (by decide +kernel) ?_)
                ·rcases Bool.eq_false_or_eq_true (cdF t 0 Q xk) with e2 | e2
                 ·skip
                  refine qT ?_
                  refine qF ?_
                  refine qN ?_
                  refine zB [] rfl rfl rfl ?_
                  refine qD (i := 0) rfl (by decide +kernel) (qB (v := .slice _ _ _) rfl) ?_
                  refine qD (i := 1) rfl (by decide +kernel) (qB (v := .int .i64 _) rfl) ?_
                  refine qD (i := 2) rfl (by decide +kernel) (qM rfl rfl rfl rfl (by omega) (by omega)) ?_
                  refine qL (i := 3) rfl (by decide +kernel) ?_
                  refine qV (v := .slice _ _ _) rfl rfl ((cA0.ext (zP (zP (zP (zP (zP (zP (zP (zP (zP (zP (zP (zP (zP FD E_ia) E_ib) E_ic) E_id) E_jj) GW) GV) E_q1) E_uw) E_jk) E_o) E_uz) E_xk)) 0 _ rfl) ?_
                  refine qD (i := 4) rfl (by decide +kernel) (qB (v := .int .i64 _) rfl) ?_
                  refine qD (i := 5) rfl (by decide +kernel) (qB (v := .slice _ _ _) rfl) ?_
                  refine qD (i := 6) rfl (by decide +kernel) (qB (v := .int .i64 _) rfl) ?_
                  refine qD (i := 7) rfl (by decide +kernel) (qM rfl rfl rfl rfl (by omega) (by omega)) ?_
                  refine qL (i := 8) rfl (by decide +kernel) ?_
                  refine qV (v := .slice _ _ _) rfl rfl ((cD0.ext (zP (zP (zP (zP (zP (zP (zP (zP (zP (zP (zP (zP E_ia E_ib) E_ic) E_id) E_jj) GW) GV) E_q1) E_uw) E_jk) E_o) E_uz) E_xk)) 0 _ rfl) ?_
                  refine qD (i := 9) rfl (by decide +kernel) (qB (v := .int .i64 _) rfl) ?_
                  refine qD (i := 10) rfl (by decide +kernel) (qB (v := .slice _ _ _) rfl) ?_
                  refine qD (i := 11) rfl (by decide +kernel) (qB (v := .int .i64 _) rfl) ?_
                  refine qD (i := 12) rfl (by decide +kernel) (qM rfl rfl rfl rfl (by omega) (by omega)) ?_
                  refine qL (i := 13) rfl (by decide +kernel) ?_
                  refine qV (v := .slice _ _ _) rfl rfl ((cA0.ext (zP (zP (zP (zP (zP (zP (zP (zP (zP (zP (zP (zP (zP FD E_ia) E_ib) E_ic) E_id) E_jj) GW) GV) E_q1) E_uw) E_jk) E_o) E_uz) E_xk)) 0 _ rfl) ?_
                  refine qD (i := 14) rfl (by decide +kernel) (qB (v := .int .i64 _) rfl) ?_
                  refine qD (i := 15) rfl (by decide +kernel) (qM rfl rfl rfl rfl (by omega) (by omega)) ?_
                  refine qL (i := 16) rfl (by decide +kernel) ?_
                  refine qI 14 (v := .bool (caF t 0 Q xk)) (off := 0 + (xk : Int).toNat * 1) rfl rfl rfl (bB_at (mixL_at _ _ hx3)) ?_
                  refine qD (i := 17) rfl (by decide +kernel) (qB (v := .bool _) rfl) ?_
                  refine qY (i := 18) rfl (by decide +kernel) rfl e1 (qB (v := .slice _ _ _) rfl) ?_
                  refine qY (i := 19) rfl (by decide +kernel) rfl e1 (qB (v := .int .i64 _) rfl) ?_
                  refine qY (i := 20) rfl (by decide +kernel) rfl e1 (qM rfl rfl rfl rfl (by omega) (by omega)) ?_
                  refine zM (i := 21) rfl (by decide +kernel) rfl e1 ?_
                  refine qV (v := .slice _ _ _) rfl rfl ((cv.ext (zP (zP (zP (zP (zP E_q1 E_uw) E_jk) E_o) E_uz) E_xk)) 0 _ rfl) ?_
                  refine qY (i := 22) rfl (by decide +kernel) rfl e1 (qB (v := .int .i64 _) rfl) ?_
                  refine qY (i := 23) rfl (by decide +kernel) rfl e1 (qM rfl rfl rfl rfl (by omega) (by omega)) ?_
                  refine zM (i := 24) rfl (by decide +kernel) rfl e1 ?_
                  refine qV (v := .bool _) rfl rfl ((cf.ext (zP (zP (zP (zP (zP (zP (zP GW GV) E_q1) E_uw) E_jk) E_o) E_uz) E_xk)) 0 _ rfl) ?_
                  refine qD (i := 25) rfl (by decide +kernel) (wY rfl e1 (v := .bool _) rfl) ?_
                  refine qD (i := 26) rfl (by decide +kernel) (qB (v := .slice _ _ _) rfl) ?_
                  refine qD (i := 27) rfl (by decide +kernel) (qB (v := .int .i64 _) rfl) ?_
                  refine qD (i := 28) rfl (by decide +kernel) (qM rfl rfl rfl rfl (by omega) (by omega)) ?_
                  refine qL (i := 29) rfl (by decide +kernel) ?_
                  refine qV (v := .slice _ _ _) rfl rfl ((cD0.ext (zP (zP (zP (zP (zP (zP (zP (zP (zP (zP (zP (zP E_ia E_ib) E_ic) E_id) E_jj) GW) GV) E_q1) E_uw) E_jk) E_o) E_uz) E_xk)) 0 _ rfl) ?_
                  refine qD (i := 30) rfl (by decide +kernel) (qB (v := .int .i64 _) rfl) ?_
                  refine qD (i := 31) rfl (by decide +kernel) (qM rfl rfl rfl rfl (by omega) (by omega)) ?_
                  refine qL (i := 32) rfl (by decide +kernel) ?_
                  refine qI 15 (v := .bool (cdF t 0 Q xk)) (off := 0 + (xk : Int).toNat * 1) rfl rfl rfl (bB_at (mixL_at _ _ hx3)) ?_
                  refine qD (i := 33) rfl (by decide +kernel) (qB (v := .bool _) rfl) ?_
                  refine wD (i := 34) rfl (by decide +kernel) rfl e2 ?_
                  refine wD (i := 35) rfl (by decide +kernel) rfl e2 ?_
                  refine wD (i := 36) rfl (by decide +kernel) rfl e2 ?_
                  refine wD (i := 37) rfl (by decide +kernel) rfl e2 ?_
                  refine wD (i := 38) rfl (by decide +kernel) rfl e2 ?_
                  refine wD (i := 39) rfl (by decide +kernel) rfl e2 ?_
                  refine wD (i := 40) rfl (by decide +kernel) rfl e2 ?_
                  refine wD (i := 41) rfl (by decide +kernel) rfl e2 ?_
                  refine qD (i := 42) rfl (by decide +kernel) (wX rfl e2 (v := .bool _) rfl) ?_
                  refine qD (i := 43) rfl (by decide +kernel) (qM rfl rfl rfl rfl (by omega) (by omega)) ?_
                  refine wI (i := 44) rfl (by decide +kernel) (by decide +kernel) ?_
                  refine qJ 14 (m := 1) (v := .bool ((flT t u 0).causes.testBit xk)) (vs := [.bool ((flT t u 0).causes.testBit xk)]) (off := 0 + (xk : Int).toNat * 1) (c' := bB (mixL (caF t 0 Q') (caF t 0 Q) 3 (xk + 1))) rfl rfl rfl rfl rfl rfl (Nat.ble_eq_true_of_le (by rw [bB_len, zG]; omega)) rfl (by rw [bB_set, zJ _ _ (by rw [hQ', ← ca_or hjt, e1]; rfl)]) ?_
                  refine qZ [_, _, _, _, _, _, _, _, _, _, _, _, _, _, _, _, _, _, _, _, _, _, _, _] rfl ?_
                  refine qD (i := 45) rfl (by decide +kernel) (qM rfl rfl rfl rfl (by omega) (by omega)) ?_
                  refine wI (i := 46) rfl (by decide +kernel) (by decide +kernel) ?_
                  refine qJ 15 (m := 1) (v := .bool true) (vs := [.bool true]) (off := 0 + (xk : Int).toNat * 1) (c' := bB (mixL (cdF t 0 Q') (cdF t 0 Q) 3 (xk + 1))) rfl rfl rfl rfl rfl rfl (Nat.ble_eq_true_of_le (by rw [bB_len, zG]; omega)) rfl (by rw [bB_set, zJ _ _ (by rw [hQ', ← cd_or hjt, e2]; rfl)]) ?_
                  refine qZ [_, _, _, _, _, _, _, _, _, _, _, _, _, _, _, _, _, _, _, _, _, _, _, _] rfl ?_
                  refine wW rfl ?_
                  refine qC rfl ?_
                  refine qA (qB (v := .int .i64 _) rfl) ?_
                  refine qA (qO rfl (by omega)) ?_
                  refine qA (qE (v := .int .i64 _) rfl) ?_
                  refine ⟨xk + 1, ⟨rfl, trivial⟩, rfl, rfl, E_xk, fun h3 E3 => by first | trivial | omega | (refine ⟨?_, ?_⟩ <;> omega), by first | omega | (dsimp only; omega), ?_⟩
                  repeat (first | exact qU _ _ _ | refine wB (by decide) ?_ | refine qS rfl ?_ | refine wZ (by decide +kernel) ?_)
                 ·skip
                  refine qT ?_
                  refine qF ?_
                  refine qN ?_
                  refine zB [] rfl rfl rfl ?_
                  refine qD (i := 0) rfl (by decide +kernel) (qB (v := .slice _ _ _) rfl) ?_
                  refine qD (i := 1) rfl (by decide +kernel) (qB (v := .int .i64 _) rfl) ?_
                  refine qD (i := 2) rfl (by decide +kernel) (qM rfl rfl rfl rfl (by omega) (by omega)) ?_
                  refine qL (i := 3) rfl (by decide +kernel) ?_
                  refine qV (v := .slice _ _ _) rfl rfl ((cA0.ext (zP (zP (zP (zP (zP (zP (zP (zP (zP (zP (zP (zP (zP FD E_ia) E_ib) E_ic) E_id) E_jj) GW) GV) E_q1) E_uw) E_jk) E_o) E_uz) E_xk)) 0 _ rfl) ?_
                  refine qD (i := 4) rfl (by decide +kernel) (qB (v := .int .i64 _) rfl) ?_
                  refine qD (i := 5) rfl (by decide +kernel) (qB (v := .slice _ _ _) rfl) ?_
                  refine qD (i := 6) rfl (by decide +kernel) (qB (v := .int .i64 _) rfl) ?_
                  refine qD (i := 7) rfl (by decide +kernel) (qM rfl rfl rfl rfl (by omega) (by omega)) ?_
                  refine qL (i := 8) rfl (by decide +kernel) ?_
                  refine qV (v := .slice _ _ _) rfl rfl ((cD0.ext (zP (zP (zP (zP (zP (zP (zP (zP (zP (zP (zP (zP E_ia E_ib) E_ic) E_id) E_jj) GW) GV) E_q1) E_uw) E_jk) E_o) E_uz) E_xk)) 0 _ rfl) ?_
                  refine qD (i := 9) rfl (by decide +kernel) (qB (v := .int .i64 _) rfl) ?_
                  refine qD (i := 10) rfl (by decide +kernel) (qB (v := .slice _ _ _) rfl) ?_
                  refine qD (i := 11) rfl (by decide +kernel) (qB (v := .int .i64 _) rfl) ?_
                  refine qD (i := 12) rfl (by decide +kernel) (qM rfl rfl rfl rfl (by omega) (by omega)) ?_
                  refine qL (i := 13) rfl (by decide +kernel) ?_
                  refine qV (v := .slice _ _ _) rfl rfl ((cA0.ext (zP (zP (zP (zP (zP (zP (zP (zP (zP (zP (zP (zP (zP FD E_ia) E_ib) E_ic) E_id) E_jj) GW) GV) E_q1) E_uw) E_jk) E_o) E_uz) E_xk)) 0 _ rfl) ?_
                  refine qD (i := 14) rfl (by decide +kernel) (qB (v := .int .i64 _) rfl) ?_
                  refine qD (i := 15) rfl (by decide +kernel) (qM rfl rfl rfl rfl (by omega) (by omega)) ?_
                  refine qL (i := 16) rfl (by decide +kernel) ?_
                  refine qI 14 (v := .bool (caF t 0 Q xk)) (off := 0 + (xk : Int).toNat * 1) rfl rfl rfl (bB_at (mixL_at _ _ hx3)) ?_
                  refine qD (i := 17) rfl (by decide +kernel) (qB (v := .bool _) rfl) ?_
                  refine qY (i := 18) rfl (by decide +kernel) rfl e1 (qB (v := .slice _ _ _) rfl) ?_
                  refine qY (i := 19) rfl (by decide +kernel) rfl e1 (qB (v := .int .i64 _) rfl) ?_
                  refine qY (i := 20) rfl (by decide +kernel) rfl e1 (qM rfl rfl rfl rfl (by omega) (by omega)) ?_
                  refine zM (i := 21) rfl (by decide +kernel) rfl e1 ?_
                  refine qV (v := .slice _ _ _) rfl rfl ((cv.ext (zP (zP (zP (zP (zP E_q1 E_uw) E_jk) E_o) E_uz) E_xk)) 0 _ rfl) ?_
                  refine qY (i := 22) rfl (by decide +kernel) rfl e1 (qB (v := .int .i64 _) rfl) ?_
                  refine qY (i := 23) rfl (by decide +kernel) rfl e1 (qM rfl rfl rfl rfl (by omega) (by omega)) ?_
                  refine zM (i := 24) rfl (by decide +kernel) rfl e1 ?_
                  refine qV (v := .bool _) rfl rfl ((cf.ext (zP (zP (zP (zP (zP (zP (zP GW GV) E_q1) E_uw) E_jk) E_o) E_uz) E_xk)) 0 _ rfl) ?_
                  refine qD (i := 25) rfl (by decide +kernel) (wY rfl e1 (v := .bool _) rfl) ?_
                  refine qD (i := 26) rfl (by decide +kernel) (qB (v := .slice _ _ _) rfl) ?_
                  refine qD (i := 27) rfl (by decide +kernel) (qB (v := .int .i64 _) rfl) ?_
                  refine qD (i := 28) rfl (by decide +kernel) (qM rfl rfl rfl rfl (by omega) (by omega)) ?_
                  refine qL (i := 29) rfl (by decide +kernel) ?_
                  refine qV (v := .slice _ _ _) rfl rfl ((cD0.ext (zP (zP (zP (zP (zP (zP (zP (zP (zP (zP (zP (zP E_ia E_ib) E_ic) E_id) E_jj) GW) GV) E_q1) E_uw) E_jk) E_o) E_uz) E_xk)) 0 _ rfl) ?_
                  refine qD (i := 30) rfl (by decide +kernel) (qB (v := .int .i64 _) rfl) ?_
                  refine qD (i := 31) rfl (by decide +kernel) (qM rfl rfl rfl rfl (by omega) (by omega)) ?_
                  refine qL (i := 32) rfl (by decide +kernel) ?_
                  refine qI 15 (v := .bool (cdF t 0 Q xk)) (off := 0 + (xk : Int).toNat * 1) rfl rfl rfl (bB_at (mixL_at _ _ hx3)) ?_
                  refine qD (i := 33) rfl (by decide +kernel) (qB (v := .bool _) rfl) ?_
                  refine qY (i := 34) rfl (by decide +kernel) rfl e2 (qB (v := .slice _ _ _) rfl) ?_
                  refine qY (i := 35) rfl (by decide +kernel) rfl e2 (qB (v := .int .i64 _) rfl) ?_
                  refine qY (i := 36) rfl (by decide +kernel) rfl e2 (qM rfl rfl rfl rfl (by omega) (by omega)) ?_
                  refine zM (i := 37) rfl (by decide +kernel) rfl e2 ?_
                  refine qV (v := .slice _ _ _) rfl rfl ((cv.ext (zP (zP (zP (zP (zP E_q1 E_uw) E_jk) E_o) E_uz) E_xk)) 0 _ rfl) ?_
                  refine qY (i := 38) rfl (by decide +kernel) rfl e2 (qB (v := .int .i64 _) rfl) ?_
                  refine qY (i := 39) rfl (by decide +kernel) rfl e2 (qM rfl rfl rfl rfl (by omega) (by omega)) ?_
                  refine zM (i := 40) rfl (by decide +kernel) rfl e2 ?_
                  refine qV (v := .bool _) rfl rfl ((cf.ext (zP (zP (zP (zP (zP (zP (zP GW GV) E_q1) E_uw) E_jk) E_o) E_uz) E_xk)) 0 _ rfl) ?_
                  refine qY (i := 41) rfl (by decide +kernel) rfl e2 (qK (v := .bool _) rfl) ?_
                  refine qD (i := 42) rfl (by decide +kernel) (wY rfl e2 (v := .bool _) rfl) ?_
                  refine qD (i := 43) rfl (by decide +kernel) (qM rfl rfl rfl rfl (by omega) (by omega)) ?_
                  refine wI (i := 44) rfl (by decide +kernel) (by decide +kernel) ?_
                  refine qJ 14 (m := 1) (v := .bool ((flT t u 0).causes.testBit xk)) (vs := [.bool ((flT t u 0).causes.testBit xk)]) (off := 0 + (xk : Int).toNat * 1) (c' := bB (mixL (caF t 0 Q') (caF t 0 Q) 3 (xk + 1))) rfl rfl rfl rfl rfl rfl (Nat.ble_eq_true_of_le (by rw [bB_len, zG]; omega)) rfl (by rw [bB_set, zJ _ _ (by rw [hQ', ← ca_or hjt, e1]; rfl)]) ?_
                  refine qZ [_, _, _, _, _, _, _, _, _, _, _, _, _, _, _, _, _, _, _, _, _, _, _, _] rfl ?_
                  refine qD (i := 45) rfl (by decide +kernel) (qM rfl rfl rfl rfl (by omega) (by omega)) ?_
                  refine wI (i := 46) rfl (by decide +kernel) (by decide +kernel) ?_
                  refine qJ 15 (m := 1) (v := .bool (!(flT t u 0).causes.testBit xk)) (vs := [.bool (!(flT t u 0).causes.testBit xk)]) (off := 0 + (xk : Int).toNat * 1) (c' := bB (mixL (cdF t 0 Q') (cdF t 0 Q) 3 (xk + 1))) rfl rfl rfl rfl rfl rfl (Nat.ble_eq_true_of_le (by rw [bB_len, zG]; omega)) rfl (by rw [bB_set, zJ _ _ (by rw [hQ', ← cd_or hjt, e2]; rfl)]) ?_
                  refine qZ [_, _, _, _, _, _, _, _, _, _, _, _, _, _, _, _, _, _, _, _, _, _, _, _] rfl ?_
                  refine wW rfl ?_
                  refine qC rfl ?_
                  refine qA (qB (v := .int .i64 _) rfl) ?_
                  refine qA (qO rfl (by omega)) ?_
                  refine qA (qE (v := .int .i64 _) rfl) ?_
                  refine ⟨xk + 1, ⟨rfl, trivial⟩, rfl, rfl, E_xk, fun h3 E3 => by first | trivial | omega | (refine ⟨?_, ?_⟩ <;> omega), by first | omega | (dsimp only; omega), ?_⟩
                  repeat (first | exact qU _ _ _ | refine wB (by decide) ?_ | refine qS rfl ?_ | refine wZ (by decide +kernel) ?_)
               ·skip
                have hxe : xk = 3 := by have := of_decide_eq_false hxk; omega
                subst hxe
                refine qP [_, _, _, _, _, _, _, _, _, _, _, some (fi, .cells (bB (mixL (fiF t Q') (fiF t Q) 2 1)).toArray 4 (0, 0)), some (la, .cells (bB (mixL (laF t Q') (laF t Q) 2 1)).toArray 4 (0, 0)), some (m0, .cells (bB (metB t 0 Q')).toArray 4 (0, 0)), some (a0, .cells (bB (caB t 0 Q')).toArray 4 (0, 0)), some (d0, .cells (bB (cdB t 0 Q')).toArray 4 (0, 0)), some (m1, .cells (bB (metB t 1 Q)).toArray 4 (0, 0)), some (a1, .cells (bB (caB t 1 Q)).toArray 4 (0, 0)), some (d1, .cells (bB (cdB t 1 Q)).toArray 4 (0, 0)), _, _, _, _, _] (by rw [mixL_all (caF t 0 Q') (caF t 0 Q) (fun i h1 h2 => by omega), mixL_all (cdF t 0 Q') (cdF t 0 Q) (fun i h1 h2 => by omega)]; rfl) ?_
                refine wU ?_
                refine qF ?_
                refine qC rfl ?_
                refine qA (qB (v := .slice _ _ _) rfl) ?_
                refine qA (qB (v := .int .i64 _) rfl) ?_
                refine qA (qM rfl rfl rfl rfl (by omega) (by omega)) ?_
                refine qV (v := .int .i64 _) rfl rfl ((cw.ext (zP (zP (zP (zP (zP (zP GV E_q1) E_uw) E_jk) E_o) E_uz) E_xk)) 0 _ rfl) ?_
                refine qA (qB (v := .int .i64 _) rfl) ?_
                refine qA (qK (v := .bool _) rfl) ?_
                have hcb := cntT_le t u (wk : Int) 0
                have hcs : cntT t u (wk : Int) 1 = cntT t u (wk : Int) 0 + if ((flT t u 0).week : Int) > (wk : Int) then 1 else 0 := rfl
                have hcs0 : cntT t u (wk : Int) 0 = 0 := rfl
                refine wA rfl (fun hn => ?_) (fun hn => ?_)
                ·skip
                 have hn1 := of_decide_eq_true hn
                 refine qC rfl ?_
                 refine qA (qB (v := .int .i64 _) rfl) ?_
                 refine qA (qO rfl (by omega)) ?_
                 refine qA (qE (v := .int .i64 _) rfl) ?_
                 refine qC rfl ?_
                 refine qA (qB (v := .int .i64 _) rfl) ?_
                 refine qA (qO rfl (by omega)) ?_
                 refine qA (qE (v := .int .i64 _) rfl) ?_
                 refine ⟨1, ⟨rfl, intE (by rw [hcs, if_pos hn1]; first | omega | (rw [hcs0]; omega)), trivial⟩, rfl, rfl, (zP (zP (zP E_jk E_o) E_uz) E_xk), fun h3 E3 => hjt, by first | omega | (dsimp only; omega), ?_⟩
                 repeat (first | exact qU _ _ _ | refine wB (by decide) ?_ | refine qS rfl ?_ | refine wZ (by decide +kernel) ?_)
                ·skip
                 have hn1 := of_decide_eq_false hn
                 refine qT ?_
                 refine qC rfl ?_
                 refine qA (qB (v := .int .i64 _) rfl) ?_
                 refine qA (qO rfl (by omega)) ?_
                 refine qA (qE (v := .int .i64 _) rfl) ?_
                 refine ⟨1, ⟨rfl, intE (by rw [hcs, if_neg hn1]; first | omega | (rw [hcs0]; omega)), trivial⟩, rfl, rfl, (zP (zP (zP E_jk E_o) E_uz) E_xk), fun h3 E3 => hjt, by first | omega | (dsimp only; omega), ?_⟩
                 repeat (first | exact qU _ _ _ | refine wB (by decide) ?_ | refine qS rfl ?_ | refine wZ (by decide +kernel) ?_)
            ·skip
             refine qP [_, _, _, _, _, _, _, _, _, _, _, _, _, some (m0, .cells (bB (metB t 0 Q')).toArray 4 (0, 0)), some (a0, .cells (bB (caB t 0 Q')).toArray 4 (0, 0)), some (d0, .cells (bB (cdB t 0 Q')).toArray 4 (0, 0)), some (m1, .cells (bB (metB t 1 Q)).toArray 4 (0, 0)), some (a1, .cells (bB (caB t 1 Q)).toArray 4 (0, 0)), some (d1, .cells (bB (cdB t 1 Q)).toArray 4 (0, 0)), _, _, _, _, _] rfl ?_
             refine qT ?_
             refine qF ?_
             refine qN ?_
             refine qF ?_
             refine zB [] rfl rfl rfl ?_
             refine qD (i := 0) rfl (by decide +kernel) (qB (v := .slice _ _ _) rfl) ?_
             refine qD (i := 1) rfl (by decide +kernel) (qB (v := .int .i64 _) rfl) ?_
             refine qD (i := 2) rfl (by decide +kernel) (qM rfl rfl rfl rfl (by omega) (by omega)) ?_
             refine qL (i := 3) rfl (by decide +kernel) ?_
             refine qV (v := .slice _ _ _) rfl rfl ((cM1.ext (zP (zP (zP (zP (zP (zP (zP (zP (zP (zP (zP FA FD) E_ia) E_ib) E_ic) E_id) E_jj) GW) GV) E_q1) E_uw) E_jk)) 0 _ rfl) ?_
             refine qD (i := 4) rfl (by decide +kernel) (qB (v := .slice _ _ _) rfl) ?_
             refine qD (i := 5) rfl (by decide +kernel) (qB (v := .int .i64 _) rfl) ?_
             refine qD (i := 6) rfl (by decide +kernel) (qM rfl rfl rfl rfl (by omega) (by omega)) ?_
             refine qL (i := 7) rfl (by decide +kernel) ?_
             refine qV (v := .int .i64 _) rfl rfl ((cw.ext (zP (zP (zP GV E_q1) E_uw) E_jk)) 0 _ rfl) ?_
             refine qD (i := 8) rfl (by decide +kernel) (qM rfl rfl rfl rfl (by omega) (by omega)) ?_
             refine wI (i := 9) rfl (by decide +kernel) (by decide +kernel) ?_
             refine qJ 16 (m := 1) (v := .bool true) (vs := [.bool true]) (off := 0 + (((flT t u 1).week : Nat) : Int).toNat * 1) (c' := bB (metB t 1 Q')) rfl rfl rfl rfl rfl rfl (Nat.ble_eq_true_of_le (by rw [bB_len, metB_len]; omega)) rfl (by rw [bB_set, metB_snoc hjt, ← hQ']) ?_
             refine qZ [_, _, _, _, _, _, _, _, _, _, _, _, _, _, _, _, _, _, _, _, _, _, _, _] rfl ?_
             refine wW rfl ?_
             refine qF ?_
             refine qC rfl ?_
             refine qA (qB (v := .slice _ _ _) rfl) ?_
             refine qA (qB (v := .int .i64 _) rfl) ?_
             refine qA (qM rfl rfl rfl rfl (by omega) (by omega)) ?_
             refine qV (v := .int .i64 _) rfl rfl ((cw.ext (zP (zP (zP GV E_q1) E_uw) E_jk)) 0 _ rfl) ?_
             refine qA (qB (v := .int .i64 _) rfl) ?_
             refine qA (qK (v := .bool _) rfl) ?_
             refine qA (qE (v := .bool _) rfl) ?_
             refine qF ?_
             refine qF ?_
             refine qC rfl ?_
             refine qA (qE (v := .int .i64 _) rfl) ?_
             refine qN ?_
             refine zN [41, 42, 405, 406, 407, 408, 409, 410, 411, 412, 413, 414, 415, 416, 417, 418, 419, 420, 421, 422] 24 (α := Nat) (fun o => [(42, .int .i64 o), (41, .bool (fstK t u 1 o))]) (fun o => _) (fun o h_o => o ≤ t.joints.length) (fun o => t.joints.length - o) (0) ⟨rfl, (by unfold fstK; rw [List.range_zero, List.all_nil, Bool.and_true]; rfl), trivial⟩ (rfl) (Nat.zero_le _) ?_
             rintro o T21 h_o E_o J_o
             refine qP [_, _, _, _, _, _, _, _, _, _, _, _, _, _, _, _, _, _, _, _, _, _, _, _] rfl ?_
             refine qF ?_
             refine qF ?_
             refine qC rfl ?_
             refine qA (qB (v := .int .i64 _) rfl) ?_
             refine qA (qB (v := .slice _ _ _) rfl) ?_
             refine qA (wV rfl rfl) ?_
             refine qA (qK (v := .bool _) rfl) ?_
             refine wA rfl (fun ho => ?_) (fun ho => ?_)
             ·skip
              have hot : o < t.joints.length := ltI ho
              obtain ⟨gw2, ow2, hW2, cw2⟩ := RWk.at (by omega) (i := o) (by rw [List.length_map, List.length_range]; exact hot)
              simp only [List.getElem_map, List.getElem_range] at cw2
              cases hW2
              rcases Bool.eq_false_or_eq_true (fstK t u 1 o) with eF | eF
              ·skip
               refine qT ?_
               refine qF ?_
               refine qN ?_
               refine zB [] rfl rfl rfl ?_
               refine qD (i := 0) rfl (by decide +kernel) (qB (v := .bool _) rfl) ?_
               refine qD (i := 1) rfl (by decide +kernel) (qB (v := .bool _) rfl) ?_
               refine qY (i := 2) rfl (by decide +kernel) rfl eF (qB (v := .slice _ _ _) rfl) ?_
               refine qY (i := 3) rfl (by decide +kernel) rfl eF (qB (v := .int .i64 _) rfl) ?_
               refine qY (i := 4) rfl (by decide +kernel) rfl eF (qM rfl rfl rfl rfl (by omega) (by omega)) ?_
               refine zM (i := 5) rfl (by decide +kernel) rfl eF ?_
               refine qV (v := .int .i64 _) rfl rfl ((cw2.ext (zP (zP (zP (zP GV E_q1) E_uw) E_jk) E_o)) 0 _ rfl) ?_
               refine qY (i := 6) rfl (by decide +kernel) rfl eF (qB (v := .slice _ _ _) rfl) ?_
               refine qY (i := 7) rfl (by decide +kernel) rfl eF (qB (v := .int .i64 _) rfl) ?_
               refine qY (i := 8) rfl (by decide +kernel) rfl eF (qM rfl rfl rfl rfl (by omega) (by omega)) ?_
               refine zM (i := 9) rfl (by decide +kernel) rfl eF ?_
               refine qV (v := .int .i64 _) rfl rfl ((cw.ext (zP (zP (zP (zP GV E_q1) E_uw) E_jk) E_o)) 0 _ rfl) ?_
               refine qY (i := 10) rfl (by decide +kernel) rfl eF (qK (v := .bool _) rfl) ?_
               refine qD (i := 11) rfl (by decide +kernel) (wX rfl eF (v := .bool _) rfl) ?_
               refine qD (i := 12) rfl (by decide +kernel) (qE (v := .bool _) rfl) ?_
               refine wW rfl ?_
               refine qC rfl ?_
               refine qA (qB (v := .int .i64 _) rfl) ?_
               refine qA (qO rfl (by omega)) ?_
               refine qA (qE (v := .int .i64 _) rfl) ?_
               refine ⟨o + 1, ⟨rfl, (by rw [fstK_succ, eF, Bool.true_and, ← ge_nat]; rfl), trivial⟩, rfl, rfl, E_o, fun h3 E3 => by first | trivial | omega | (refine ⟨?_, ?_⟩ <;> omega), by first | omega | (dsimp only; omega), ?_⟩
               repeat (first | exact qU _ _ _ | refine wB (by decide) ?_ | refine qS rfl ?_ | refine wZ (by decide +kernel) ?_)
              ·skip
               refine qT ?_
               refine qF ?_
               refine qN ?_
               refine zB [] rfl rfl rfl ?_
               refine qD (i := 0) rfl (by decide +kernel) (qB (v := .bool _) rfl) ?_
               refine qD (i := 1) rfl (by decide +kernel) (qB (v := .bool _) rfl) ?_
               refine wD (i := 2) rfl (by decide +kernel) rfl eF ?_
               refine wD (i := 3) rfl (by decide +kernel) rfl eF ?_
               refine wD (i := 4) rfl (by decide +kernel) rfl eF ?_
               refine wD (i := 5) rfl (by decide +kernel) rfl eF ?_
               refine wD (i := 6) rfl (by decide +kernel) rfl eF ?_
               refine wD (i := 7) rfl (by decide +kernel) rfl eF ?_
               refine wD (i := 8) rfl (by decide +kernel) rfl eF ?_
               refine wD (i := 9) rfl (by decide +kernel) rfl eF ?_
               refine wD (i := 10) rfl (by decide +kernel) rfl eF ?_
               refine qD (i := 11) rfl (by decide +kernel) (wY rfl eF (v := .bool _) rfl) ?_
               refine qD (i := 12) rfl (by decide +kernel) (qE (v := .bool _) rfl) ?_
               refine wW rfl ?_
               refine qC rfl ?_
               refine qA (qB (v := .int .i64 _) rfl) ?_
               refine qA (qO rfl (by omega)) ?_
               refine qA (qE (v := .int .i64 _) rfl) ?_
               refine ⟨o + 1, ⟨rfl, (by rw [fstK_succ, eF]; rfl), trivial⟩, rfl, rfl, E_o, fun h3 E3 => by first | trivial | omega | (refine ⟨?_, ?_⟩ <;> omega), by first | omega | (dsimp only; omega), ?_⟩
               repeat (first | exact qU _ _ _ | refine wB (by decide) ?_ | refine qS rfl ?_ | refine wZ (by decide +kernel) ?_)
             ·skip
              have hoe : o = t.joints.length := by have := geI ho; omega
              subst hoe
              refine wU ?_
              refine xp_cutB [423, 424, 425, 426, 427, 428, 429, 430, 431, 432, 433, 434, 435, 436, 437, 438, 439, 440, 441, 442, 443] 24 (α := Unit) (fun uz => []) (fun uz L => (L.set 11 (some (fi, .cells (bB (mixL (fiF t Q') (fiF t Q) 2 2)).toArray 4 (0, 0)))).set 12 (some (la, .cells (bB (mixL (laF t Q') (laF t Q) 2 2)).toArray 4 (0, 0)))) (fun uz h_uz => True) ?_ ?_
              ·skip
               rcases Bool.eq_false_or_eq_true (fiF t Q 1) with e1 | e1
               ·rcases Bool.eq_false_or_eq_true (laF t Q 1) with e2 | e2
                ·skip
                 refine zB [] rfl rfl rfl ?_
                 refine qD (i := 0) rfl (by decide +kernel) (qB (v := .slice _ _ _) rfl) ?_
                 refine qD (i := 1) rfl (by decide +kernel) (qB (v := .int .i64 _) rfl) ?_
                 refine qD (i := 2) rfl (by decide +kernel) (qB (v := .slice _ _ _) rfl) ?_
                 refine qD (i := 3) rfl (by decide +kernel) (qB (v := .int .i64 _) rfl) ?_
                 refine qD (i := 4) rfl (by decide +kernel) (qB (v := .slice _ _ _) rfl) ?_
                 refine qD (i := 5) rfl (by decide +kernel) (qB (v := .int .i64 _) rfl) ?_
                 refine qD (i := 6) rfl (by decide +kernel) (qM rfl rfl rfl rfl (by omega) (by omega)) ?_
                 refine qL (i := 7) rfl (by decide +kernel) ?_
                 refine qI 11 (v := .bool (fiF t Q 1)) (off := 0 + ((1 : Nat) : Int).toNat * 1) rfl rfl rfl (bB_at (mixL_at _ _ (by decide))) ?_
                 refine qD (i := 8) rfl (by decide +kernel) (qB (v := .bool _) rfl) ?_
                 refine wD (i := 9) rfl (by decide +kernel) rfl e1 ?_
                 refine qD (i := 10) rfl (by decide +kernel) (wX rfl e1 (v := .bool _) rfl) ?_
                 refine qD (i := 11) rfl (by decide +kernel) (qB (v := .slice _ _ _) rfl) ?_
                 refine qD (i := 12) rfl (by decide +kernel) (qB (v := .int .i64 _) rfl) ?_
                 refine qD (i := 13) rfl (by decide +kernel) (qM rfl rfl rfl rfl (by omega) (by omega)) ?_
                 refine qL (i := 14) rfl (by decide +kernel) ?_
                 refine qI 12 (v := .bool (laF t Q 1)) (off := 0 + ((1 : Nat) : Int).toNat * 1) rfl rfl rfl (bB_at (mixL_at _ _ (by decide))) ?_
                 refine qD (i := 15) rfl (by decide +kernel) (qB (v := .bool _) rfl) ?_
                 refine wD (i := 16) rfl (by decide +kernel) rfl e2 ?_
                 refine wD (i := 17) rfl (by decide +kernel) rfl e2 ?_
                 refine qD (i := 18) rfl (by decide +kernel) (wX rfl e2 (v := .bool _) rfl) ?_
                 refine qD (i := 19) rfl (by decide +kernel) (qM rfl rfl rfl rfl (by omega) (by omega)) ?_
                 refine wI (i := 20) rfl (by decide +kernel) (by decide +kernel) ?_
                 refine qJ 11 (m := 1) (v := .bool true) (vs := [.bool true]) (off := 0 + ((1 : Nat) : Int).toNat * 1) (c' := bB (mixL (fiF t Q') (fiF t Q) 2 2)) rfl rfl rfl rfl rfl rfl (Nat.ble_eq_true_of_le (by rw [bB_len, zG]; decide)) rfl (by rw [bB_set, zJ _ _ (by rw [hQ', ← fi_or hjt, e1]; rfl)]) ?_
                 refine qZ [_, _, _, _, _, _, _, _, _, _, _, _, _, _, _, _, _, _, _, _, _, _, _, _] rfl ?_
                 refine qD (i := 21) rfl (by decide +kernel) (qM rfl rfl rfl rfl (by omega) (by omega)) ?_
                 refine wI (i := 22) rfl (by decide +kernel) (by decide +kernel) ?_
                 refine qJ 12 (m := 1) (v := .bool true) (vs := [.bool true]) (off := 0 + ((1 : Nat) : Int).toNat * 1) (c' := bB (mixL (laF t Q') (laF t Q) 2 2)) rfl rfl rfl rfl rfl rfl (Nat.ble_eq_true_of_le (by rw [bB_len, zG]; decide)) rfl (by rw [bB_set, zJ _ _ (by rw [hQ', ← la_or hjt, e2]; rfl)]) ?_
                 refine qZ [_, _, _, _, _, _, _, _, _, _, _, _, _, _, _, _, _, _, _, _, _, _, _, _] rfl ?_
                 refine wW rfl ?_
                 refine ⟨(), trivial, rfl, rfl, (Ext.refl _), fun h3 E3 => by first | trivial | omega | (refine ⟨?_, ?_⟩ <;> omega), ?_⟩
                 repeat (first | exact zE _ _ | exact qU _ _ _ | refine wB (by decide) ?_ | refine qS rfl ?_ | refine wZ (by decide +kernel) ?_)
                ·skip
                 refine zB [] rfl rfl rfl ?_
                 refine qD (i := 0) rfl (by decide +kernel) (qB (v := .slice _ _ _) rfl) ?_
                 refine qD (i := 1) rfl (by decide +kernel) (qB (v := .int .i64 _) rfl) ?_
                 refine qD (i := 2) rfl (by decide +kernel) (qB (v := .slice _ _ _) rfl) ?_
                 refine qD (i := 3) rfl (by decide +kernel) (qB (v := .int .i64 _) rfl) ?_
                 refine qD (i := 4) rfl (by decide +kernel) (qB (v := .slice _ _ _) rfl) ?_
                 refine qD (i := 5) rfl (by decide +kernel) (qB (v := .int .i64 _) rfl) ?_
                 refine qD (i := 6) rfl (by decide +kernel) (qM rfl rfl rfl rfl (by omega) (by omega)) ?_
                 refine qL (i := 7) rfl (by decide +kernel) ?_
                 refine qI 11 (v := .bool (fiF t Q 1)) (off := 0 + ((1 : Nat) : Int).toNat * 1) rfl rfl rfl (bB_at (mixL_at _ _ (by decide))) ?_
                 refine qD (i := 8) rfl (by decide +kernel) (qB (v := .bool _) rfl) ?_
                 refine wD (i := 9) rfl (by decide +kernel) rfl e1 ?_
                 refine qD (i := 10) rfl (by decide +kernel) (wX rfl e1 (v := .bool _) rfl) ?_
                 refine qD (i := 11) rfl (by decide +kernel) (qB (v := .slice _ _ _) rfl) ?_
                 refine qD (i := 12) rfl (by decide +kernel) (qB (v := .int .i64 _) rfl) ?_
                 refine qD (i := 13) rfl (by decide +kernel) (qM rfl rfl rfl rfl (by omega) (by omega)) ?_
                 refine qL (i := 14) rfl (by decide +kernel) ?_
                 refine qI 12 (v := .bool (laF t Q 1)) (off := 0 + ((1 : Nat) : Int).toNat * 1) rfl rfl rfl (bB_at (mixL_at _ _ (by decide))) ?_
                 refine qD (i := 15) rfl (by decide +kernel) (qB (v := .bool _) rfl) ?_
                 refine qY (i := 16) rfl (by decide +kernel) rfl e2 (qB (v := .bool _) rfl) ?_
                 refine qY (i := 17) rfl (by decide +kernel) rfl e2 (qK (v := .bool _) rfl) ?_
                 refine qD (i := 18) rfl (by decide +kernel) (wY rfl e2 (v := .bool _) rfl) ?_
                 refine qD (i := 19) rfl (by decide +kernel) (qM rfl rfl rfl rfl (by omega) (by omega)) ?_
                 refine wI (i := 20) rfl (by decide +kernel) (by decide +kernel) ?_
                 refine qJ 11 (m := 1) (v := .bool true) (vs := [.bool true]) (off := 0 + ((1 : Nat) : Int).toNat * 1) (c' := bB (mixL (fiF t Q') (fiF t Q) 2 2)) rfl rfl rfl rfl rfl rfl (Nat.ble_eq_true_of_le (by rw [bB_len, zG]; decide)) rfl (by rw [bB_set, zJ _ _ (by rw [hQ', ← fi_or hjt, e1]; rfl)]) ?_
                 refine qZ [_, _, _, _, _, _, _, _, _, _, _, _, _, _, _, _, _, _, _, _, _, _, _, _] rfl ?_
                 refine qD (i := 21) rfl (by decide +kernel) (qM rfl rfl rfl rfl (by omega) (by omega)) ?_
                 refine wI (i := 22) rfl (by decide +kernel) (by decide +kernel) ?_
                 refine qJ 12 (m := 1) (v := .bool (!fstT t u 1)) (vs := [.bool (!fstT t u 1)]) (off := 0 + ((1 : Nat) : Int).toNat * 1) (c' := bB (mixL (laF t Q') (laF t Q) 2 2)) rfl rfl rfl rfl rfl rfl (Nat.ble_eq_true_of_le (by rw [bB_len, zG]; decide)) rfl (by rw [bB_set, zJ _ _ (by rw [hQ', ← la_or hjt, e2]; rfl)]) ?_
                 refine qZ [_, _, _, _, _, _, _, _, _, _, _, _, _, _, _, _, _, _, _, _, _, _, _, _] rfl ?_
                 refine wW rfl ?_
                 refine ⟨(), trivial, rfl, rfl, (Ext.refl _), fun h3 E3 => by first | trivial | omega | (refine ⟨?_, ?_⟩ <;> omega), ?_⟩
                 repeat (first | exact zE _ _ | exact qU _ _ _ | refine wB (by decide) ?_ | refine qS rfl ?_ | refine wZ (by decide +kernel) ?_)
               ·rcases Bool.eq_false_or_eq_true (laF t Q 1) with e2 | e2
                ·skip
                 refine zB [] rfl rfl rfl ?_
                 refine qD (i := 0) rfl (by decide +kernel) (qB (v := .slice _ _ _) rfl) ?_
                 refine qD (i := 1) rfl (by decide +kernel) (qB (v := .int .i64 _) rfl) ?_
                 refine qD (i := 2) rfl (by decide +kernel) (qB (v := .slice _ _ _) rfl) ?_
                 refine qD (i := 3) rfl (by decide +kernel) (qB (v := .int .i64 _) rfl) ?_
                 refine qD (i := 4) rfl (by decide +kernel) (qB (v := .slice _ _ _) rfl) ?_
                 refine qD (i := 5) rfl (by decide +kernel) (qB (v := .int .i64 _) rfl) ?_
                 refine qD (i := 6) rfl (by decide +kernel) (qM rfl rfl rfl rfl (by omega) (by omega)) ?_
                 refine qL (i := 7) rfl (by decide +kernel) ?_
                 refine qI 11 (v := .bool (fiF t Q 1)) (off := 0 + ((1 : Nat) : Int).toNat * 1) rfl rfl rfl (bB_at (mixL_at _ _ (by decide))) ?_
                 refine qD (i := 8) rfl (by decide +kernel) (qB (v := .bool _) rfl) ?_
                 refine qY (i := 9) rfl (by decide +kernel) rfl e1 (qB (v := .bool _) rfl) ?_
                 refine qD (i := 10) rfl (by decide +kernel) (wY rfl e1 (v := .bool _) rfl) ?_
                 refine qD (i := 11) rfl (by decide +kernel) (qB (v := .slice _ _ _) rfl) ?_
                 refine qD (i := 12) rfl (by decide +kernel) (qB (v := .int .i64 _) rfl) ?_
                 refine qD (i := 13) rfl (by decide +kernel) (qM rfl rfl rfl rfl (by omega) (by omega)) ?_
                 refine qL (i := 14) rfl (by decide +kernel) ?_
                 refine qI 12 (v := .bool (laF t Q 1)) (off := 0 + ((1 : Nat) : Int).toNat * 1) rfl rfl rfl (bB_at (mixL_at _ _ (by decide))) ?_
                 refine qD (i := 15) rfl (by decide +kernel) (qB (v := .bool _) rfl) ?_
                 refine wD (i := 16) rfl (by decide +kernel) rfl e2 ?_
                 refine wD (i := 17) rfl (by decide +kernel) rfl e2 ?_
                 refine qD (i := 18) rfl (by decide +kernel) (wX rfl e2 (v := .bool _) rfl) ?_
                 refine qD (i := 19) rfl (by decide +kernel) (qM rfl rfl rfl rfl (by omega) (by omega)) ?_
                 refine wI (i := 20) rfl (by decide +kernel) (by decide +kernel) ?_
                 refine qJ 11 (m := 1) (v := .bool (fstT t u 1)) (vs := [.bool (fstT t u 1)]) (off := 0 + ((1 : Nat) : Int).toNat * 1) (c' := bB (mixL (fiF t Q') (fiF t Q) 2 2)) rfl rfl rfl rfl rfl rfl (Nat.ble_eq_true_of_le (by rw [bB_len, zG]; decide)) rfl (by rw [bB_set, zJ _ _ (by rw [hQ', ← fi_or hjt, e1]; rfl)]) ?_
                 refine qZ [_, _, _, _, _, _, _, _, _, _, _, _, _, _, _, _, _, _, _, _, _, _, _, _] rfl ?_
                 refine qD (i := 21) rfl (by decide +kernel) (qM rfl rfl rfl rfl (by omega) (by omega)) ?_
                 refine wI (i := 22) rfl (by decide +kernel) (by decide +kernel) ?_
                 refine qJ 12 (m := 1) (v := .bool true) (vs := [.bool true]) (off := 0 + ((1 : Nat) : Int).toNat * 1) (c' := bB (mixL (laF t Q') (laF t Q) 2 2)) rfl rfl rfl rfl rfl rfl (Nat.ble_eq_true_of_le (by rw [bB_len, zG]; decide)) rfl (by rw [bB_set, zJ _ _ (by rw [hQ', ← la_or hjt, e2]; rfl)]) ?_
                 refine qZ [_, _, _, _, _, _, _, _, _, _, _, _, _, _, _, _, _, _, _, _, _, _, _, _] rfl ?_
                 refine wW rfl ?_
                 refine ⟨(), trivial, rfl, rfl, (Ext.refl _), fun h3 E3 => by first | trivial | omega | (refine ⟨?_, ?_⟩ <;> omega), ?_⟩
                 repeat (first | exact zE _ _ | exact qU _ _ _ | refine wB (by decide) ?_ | refine qS rfl ?_ | refine wZ (by decide +kernel) ?_)
                ·skip
                 refine zB [] rfl rfl rfl ?_
                 refine qD (i := 0) rfl (by decide +kernel) (qB (v := .slice _ _ _) rfl) ?_
                 refine qD (i := 1) rfl (by decide +kernel) (qB (v := .int .i64 _) rfl) ?_
                 refine qD (i := 2) rfl (by decide +kernel) (qB (v := .slice _ _ _) rfl) ?_
                 refine qD (i := 3) rfl (by decide +kernel) (qB (v := .int .i64 _) rfl) ?_
                 refine qD (i := 4) rfl (by decide +kernel) (qB (v := .slice _ _ _) rfl) ?_
                 refine qD (i := 5) rfl (by decide +kernel) (qB (v := .int .i64 _) rfl) ?_
                 refine qD (i := 6) rfl (by decide +kernel) (qM rfl rfl rfl rfl (by omega) (by omega)) ?_
                 refine qL (i := 7) rfl (by decide +kernel) ?_
                 refine qI 11 (v := .bool (fiF t Q 1)) (off := 0 + ((1 : Nat) : Int).toNat * 1) rfl rfl rfl (bB_at (mixL_at _ _ (by decide))) ?_
                 refine qD (i := 8) rfl (by decide +kernel) (qB (v := .bool _) rfl) ?_
                 refine qY (i := 9) rfl (by decide +kernel) rfl e1 (qB (v := .bool _) rfl) ?_
                 refine qD (i := 10) rfl (by decide +kernel) (wY rfl e1 (v := .bool _) rfl) ?_
                 refine qD (i := 11) rfl (by decide +kernel) (qB (v := .slice _ _ _) rfl) ?_
                 refine qD (i := 12) rfl (by decide +kernel) (qB (v := .int .i64 _) rfl) ?_
                 refine qD (i := 13) rfl (by decide +kernel) (qM rfl rfl rfl rfl (by omega) (by omega)) ?_
                 refine qL (i := 14) rfl (by decide +kernel) ?_
                 refine qI 12 (v := .bool (laF t Q 1)) (off := 0 + ((1 : Nat) : Int).toNat * 1) rfl rfl rfl (bB_at (mixL_at _ _ (by decide))) ?_
                 refine qD (i := 15) rfl (by decide +kernel) (qB (v := .bool _) rfl) ?_
                 refine qY (i := 16) rfl (by decide +kernel) rfl e2 (qB (v := .bool _) rfl) ?_
                 refine qY (i := 17) rfl (by decide +kernel) rfl e2 (qK (v := .bool _) rfl) ?_
                 refine qD (i := 18) rfl (by decide +kernel) (wY rfl e2 (v := .bool _) rfl) ?_
                 refine qD (i := 19) rfl (by decide +kernel) (qM rfl rfl rfl rfl (by omega) (by omega)) ?_
                 refine wI (i := 20) rfl (by decide +kernel) (by decide +kernel) ?_
                 refine qJ 11 (m := 1) (v := .bool (fstT t u 1)) (vs := [.bool (fstT t u 1)]) (off := 0 + ((1 : Nat) : Int).toNat * 1) (c' := bB (mixL (fiF t Q') (fiF t Q) 2 2)) rfl rfl rfl rfl rfl rfl (Nat.ble_eq_true_of_le (by rw [bB_len, zG]; decide)) rfl (by rw [bB_set, zJ _ _ (by rw [hQ', ← fi_or hjt, e1]; rfl)]) ?_
                 refine qZ [_, _, _, _, _, _, _, _, _, _, _, _, _, _, _, _, _, _, _, _, _, _, _, _] rfl ?_
                 refine qD (i := 21) rfl (by decide +kernel) (qM rfl rfl rfl rfl (by omega) (by omega)) ?_
                 refine wI (i := 22) rfl (by decide +kernel) (by decide +kernel) ?_
                 refine qJ 12 (m := 1) (v := .bool (!fstT t u 1)) (vs := [.bool (!fstT t u 1)]) (off := 0 + ((1 : Nat) : Int).toNat * 1) (c' := bB (mixL (laF t Q') (laF t Q) 2 2)) rfl rfl rfl rfl rfl rfl (Nat.ble_eq_true_of_le (by rw [bB_len, zG]; decide)) rfl (by rw [bB_set, zJ _ _ (by rw [hQ', ← la_or hjt, e2]; rfl)]) ?_
                 refine qZ [_, _, _, _, _, _, _, _, _, _, _, _, _, _, _, _, _, _, _, _, _, _, _, _] rfl ?_
                 refine wW rfl ?_
                 refine ⟨(), trivial, rfl, rfl, (Ext.refl _), fun h3 E3 => by first | trivial | omega | (refine ⟨?_, ?_⟩ <;> omega), ?_⟩
                 repeat (first | exact zE _ _ | exact qU _ _ _ | refine wB (by decide) ?_ | refine qS rfl ?_ | refine wZ (by decide +kernel) ?_)
              ·rintro uz T22 h_uz E_uz J_uz
               refine qP [_, _, _, _, _, _, _, _, _, _, _, _, _, _, _, _, _, _, _, _, _, _, _, _] rfl ?_
               refine qF ?_
               refine qF ?_
               refine qC rfl ?_
               refine qA (qE (v := .int .i64 _) rfl) ?_
               refine qN ?_
               refine xp_loopL [43, 444, 445, 446, 447, 448, 449, 450, 451, 452, 453, 454, 455, 456, 457, 458, 459, 460, 461, 462, 463, 464, 465, 466, 467, 468, 469, 470, 471, 472, 473, 474, 475, 476, 477, 478, 479, 480, 481, 482, 483, 484, 485, 486, 487, 488, 489, 490, 491, 492] 24 (α := Nat) (fun xk => [(43, .int .i64 xk)]) (fun xk L => (L.set 17 (some (a1, .cells (bB (mixL (caF t 1 Q') (caF t 1 Q) 3 xk)).toArray 4 (0, 0)))).set 18 (some (d1, .cells (bB (mixL (cdF t 1 Q') (cdF t 1 Q) 3 xk)).toArray 4 (0, 0)))) (fun xk h_xk => xk ≤ 3) (fun xk => 3 - xk) (0) ⟨rfl, trivial⟩ ((by rw [mixL_zero, mixL_zero]; rfl)) (Nat.zero_le _) ?_
               rintro xk T23 h_xk E_xk J_xk
               refine qP [_, _, _, _, _, _, _, _, _, _, _, _, _, _, _, _, _, _, _, _, _, _, _, _] rfl ?_
               refine qF ?_
               refine qF ?_
               refine qC rfl ?_
               refine qA (qB (v := .int .i64 _) rfl) ?_
               refine qA (qK (v := .bool _) rfl) ?_
               refine wA rfl (fun hxk => ?_) (fun hxk => ?_)
               ·skip
                have hx3 : xk < 3 := by have := of_decide_eq_true hxk; omega
                obtain ⟨hfl, hfe⟩ := flB_get (flT t u 1) xk hx3
                obtain ⟨gf2, of2, hF2, cf⟩ := Rf.at (by omega) (i := xk) hfl
                cases hF2
                rw [hfe] at cf
                rcases Bool.eq_false_or_eq_true (caF t 1 Q xk) with e1 | e1
                ·rcases Bool.eq_false_or_eq_true (cdF t 1 Q xk) with e2 | e2
                 ·skip
                  refine qT ?_
                  refine qF ?_
                  refine qN ?_
                  refine zB [] rfl rfl rfl ?_
                  refine qD (i := 0) rfl (by decide +kernel) (qB (v := .slice _ _ _) rfl) ?_
                  refine qD (i := 1) rfl (by decide +kernel) (qB (v := .int .i64 _) rfl) ?_
                  refine qD (i := 2) rfl (by decide +kernel) (qM rfl rfl rfl rfl (by omega) (by omega)) ?_
                  refine qL (i := 3) rfl (by decide +kernel) ?_
                  refine qV (v := .slice _ _ _) rfl rfl ((cA1.ext (zP (zP (zP (zP (zP (zP (zP (zP (zP (zP (zP (zP (zP FD E_ia) E_ib) E_ic) E_id) E_jj) GW) GV) E_q1) E_uw) E_jk) E_o) E_uz) E_xk)) 0 _ rfl) ?_
                  refine qD (i := 4) rfl (by decide +kernel) (qB (v := .int .i64 _) rfl) ?_
                  refine qD (i := 5) rfl (by decide +kernel) (qB (v := .slice _ _ _) rfl) ?_
                  refine qD (i := 6) rfl (by decide +kernel) (qB (v := .int .i64 _) rfl) ?_
                  refine qD (i := 7) rfl (by decide +kernel) (qM rfl rfl rfl rfl (by omega) (by omega)) ?_
                  refine qL (i := 8) rfl (by decide +kernel) ?_
                  refine qV (v := .slice _ _ _) rfl rfl ((cD1.ext (zP (zP (zP (zP (zP (zP (zP (zP (zP (zP (zP (zP E_ia E_ib) E_ic) E_id) E_jj) GW) GV) E_q1) E_uw) E_jk) E_o) E_uz) E_xk)) 0 _ rfl) ?_
                  refine qD (i := 9) rfl (by decide +kernel) (qB (v := .int .i64 _) rfl) ?_
                  refine qD (i := 10) rfl (by decide +kernel) (qB (v := .slice _ _ _) rfl) ?_
                  refine qD (i := 11) rfl (by decide +kernel) (qB (v := .int .i64 _) rfl) ?_
                  refine qD (i := 12) rfl (by decide +kernel) (qM rfl rfl rfl rfl (by omega) (by omega)) ?_
                  refine qL (i := 13) rfl (by decide +kernel) ?_
                  refine qV (v := .slice _ _ _) rfl rfl ((cA1.ext (zP (zP (zP (zP (zP (zP (zP (zP (zP (zP (zP (zP (zP FD E_ia) E_ib) E_ic) E_id) E_jj) GW) GV) E_q1) E_uw) E_jk) E_o) E_uz) E_xk)) 0 _ rfl) ?_
                  refine qD (i := 14) rfl (by decide +kernel) (qB (v := .int .i64 _) rfl) ?_
                  refine qD (i := 15) rfl (by decide +kernel) (qM rfl rfl rfl rfl (by omega) (by omega)) ?_
                  refine qL (i := 16) rfl (by decide +kernel) ?_
                  refine qI 17 (v := .bool (caF t 1 Q xk)) (off := 0 + (xk : Int).toNat * 1) rfl rfl rfl (bB_at (mixL_at _ _ hx3)) ?_
                  refine qD (i := 17) rfl (by decide +kernel) (qB (v := .bool _) rfl) ?_
                  refine wD (i := 18) rfl (by decide +kernel) rfl e1 ?_
                  refine wD (i := 19) rfl (by decide +kernel) rfl e1 ?_
                  refine wD (i := 20) rfl (by decide +kernel) rfl e1 ?_
                  refine wD (i := 21) rfl (by decide +kernel) rfl e1 ?_
                  refine wD (i := 22) rfl (by decide +kernel) rfl e1 ?_
                  refine wD (i := 23) rfl (by decide +kernel) rfl e1 ?_
                  refine wD (i := 24) rfl (by decide +kernel) rfl e1 ?_
                  refine qD (i := 25) rfl (by decide +kernel) (wX rfl e1 (v := .bool _) rfl) ?_
                  refine qD (i := 26) rfl (by decide +kernel) (qB (v := .slice _ _ _) rfl) ?_
                  refine qD (i := 27) rfl (by decide +kernel) (qB (v := .int .i64 _) rfl) ?_
                  refine qD (i := 28) rfl (by decide +kernel) (qM rfl rfl rfl rfl (by omega) (by omega)) ?_
                  refine qL (i := 29) rfl (by decide +kernel) ?_
                  refine qV (v := .slice _ _ _) rfl rfl ((cD1.ext (zP (zP (zP (zP (zP (zP (zP (zP (zP (zP (zP (zP E_ia E_ib) E_ic) E_id) E_jj) GW) GV) E_q1) E_uw) E_jk) E_o) E_uz) E_xk)) 0 _ rfl) ?_
                  refine qD (i := 30) rfl (by decide +kernel) (qB (v := .int .i64 _) rfl) ?_
                  refine qD (i := 31) rfl (by decide +kernel) (qM rfl rfl rfl rfl (by omega) (by omega)) ?_
                  refine qL (i := 32) rfl (by decide +kernel) ?_
                  refine qI 18 (v := .bool (cdF t 1 Q xk)) (off := 0 + (xk : Int).toNat * 1) rfl rfl rfl (bB_at (mixL_at _ _ hx3)) ?_
                  refine qD (i := 33) rfl (by decide +kernel) (qB (v := .bool _) rfl) ?_
                  refine wD (i := 34) rfl (by decide +kernel) rfl e2 ?_
                  refine wD (i := 35) rfl (by decide +kernel) rfl e2 ?_
                  refine wD (i := 36) rfl (by decide +kernel) rfl e2 ?_
                  refine wD (i := 37) rfl (by decide +kernel) rfl e2 ?_
                  refine wD (i := 38) rfl (by decide +kernel) rfl e2 ?_
                  refine wD (i := 39) rfl (by decide +kernel) rfl e2 ?_
                  refine wD (i := 40) rfl (by decide +kernel) rfl e2 ?_
                  refine wD (i := 41) rfl (by decide +kernel) rfl e2 ?_
                  refine qD (i := 42) rfl (by decide +kernel) (wX rfl e2 (v := .bool _) rfl) ?_
                  refine qD (i := 43) rfl (by decide +kernel) (qM rfl rfl rfl rfl (by omega) (by omega)) ?_
                  refine wI (i := 44) rfl (by decide +kernel) (by decide +kernel) ?_
                  refine qJ 17 (m := 1) (v := .bool true) (vs := [.bool true]) (off := 0 + (xk : Int).toNat * 1) (c' := bB (mixL (caF t 1 Q') (caF t 1 Q) 3 (xk + 1))) rfl rfl rfl rfl rfl rfl (Nat.ble_eq_true_of_le (by rw [bB_len, zG]; omega)) rfl (by rw [bB_set, zJ _ _ (by rw [hQ', ← ca_or hjt, e1]; rfl)]) ?_
                  refine qZ [_, _, _, _, _, _, _, _, _, _, _, _, _, _, _, _, _, _, _, _, _, _, _, _] rfl ?_
                  refine qD (i := 45) rfl (by decide +kernel) (qM rfl rfl rfl rfl (by omega) (by omega)) ?_
                  refine wI (i := 46) rfl (by decide +kernel) (by decide +kernel) ?_
                  refine qJ 18 (m := 1) (v := .bool true) (vs := [.bool true]) (off := 0 + (xk : Int).toNat * 1) (c' := bB (mixL (cdF t 1 Q') (cdF t 1 Q) 3 (xk + 1))) rfl rfl rfl rfl rfl rfl (Nat.ble_eq_true_of_le (by rw [bB_len, zG]; omega)) rfl (by rw [bB_set, zJ _ _ (by rw [hQ', ← cd_or hjt, e2]; rfl)]) ?_
                  refine qZ [_, _, _, _, _, _, _, _, _, _, _, _, _, _, _, _, _, _, _, _, _, _, _, _] rfl ?_
                  refine wW rfl ?_
                  refine qC rfl ?_
                  refine qA (qB (v := .int .i64 _) rfl) ?_
                  refine qA (qO rfl (by omega)) ?_
                  refine qA (qE (v := .int .i64 _) rfl) ?_
                  refine ⟨xk + 1, ⟨rfl, trivial⟩, rfl, rfl, E_xk, fun h3 E3 => by first | trivial | omega | (refine ⟨?_, ?_⟩ <;> omega), by first | omega | (dsimp only; omega), ?_⟩
                  repeat (first | exact qU _ _ _ | refine wB (by decide) ?_ | refine qS rfl ?_ | refine wZ (by decide +kernel) ?_)
                 ·skip
                  refine qT ?_
                  refine qF ?_
                  refine qN ?_
                  refine zB [] rfl rfl rfl ?_
                  refine qD (i := 0) rfl (by decide +kernel) (qB (v := .slice _ _ _) rfl) ?_
                  refine qD (i := 1) rfl (by decide +kernel) (qB (v := .int .i64 _) rfl) ?_
                  refine qD (i := 2) rfl (by decide +kernel) (qM rfl rfl rfl rfl (by omega) (by omega)) ?_
                  refine qL (i := 3) rfl (by decide +kernel) ?_
                  refine qV (v := .slice _ _ _) rfl rfl ((cA1.ext (zP (zP (zP (zP (zP (zP (zP (zP (zP (zP (zP (zP (zP FD E_ia) E_ib) E_ic) E_id) E_jj) GW) GV) E_q1) E_uw) E_jk) E_o) E_uz) E_xk)) 0 _ rfl) ?_
                  refine qD (i := 4) rfl (by decide +kernel) (qB (v := .int .i64 _) rfl) ?_
                  refine qD (i := 5) rfl (by decide +kernel) (qB (v := .slice _ _ _) rfl) ?_
                  refine qD (i := 6) rfl (by decide +kernel) (qB (v := .int .i64 _) rfl) ?_
                  refine qD (i := 7) rfl (by decide +kernel) (qM rfl rfl rfl rfl (by omega) (by omega)) ?_
                  refine qL (i := 8) rfl (by decide +kernel) ?_
                  refine qV (v := .slice _ _ _) rfl rfl ((cD1.ext (zP (zP (zP (zP (zP (zP (zP (zP (zP (zP (zP (zP E_ia E_ib) E_ic) E_id) E_jj) GW) GV) E_q1) E_uw) E_jk) E_o) E_uz) E_xk)) 0 _ rfl) ?_
                  refine qD (i := 9) rfl (by decide +kernel) (qB (v := .int .i64 _) rfl) ?_
                  refine qD (i := 10) rfl (by decide +kernel) (qB (v := .slice _ _ _) rfl) ?_
                  refine qD (i := 11) rfl (by decide +kernel) (qB (v := .int .i64 _) rfl) ?_
                  refine qD (i := 12) rfl (by decide +kernel) (qM rfl rfl rfl rfl (by omega) (by omega)) ?_
                  refine qL (i := 13) rfl (by decide +kernel) ?_
                  refine qV (v := .slice _ _ _) rfl rfl ((cA1.ext (zP (zP (zP (zP (zP (zP (zP (zP (zP (zP (zP (zP (zP FD E_ia) E_ib) E_ic) E_id) E_jj) GW) GV) E_q1) E_uw) E_jk) E_o) E_uz) E_xk)) 0 _ rfl) ?_
                  refine qD (i := 14) rfl (by decide +kernel) (qB (v := .int .i64 _) rfl) ?_
                  refine qD (i := 15) rfl (by decide +kernel) (qM rfl rfl rfl rfl (by omega) (by omega)) ?_
                  refine qL (i := 16) rfl (by decide +kernel) ?_
                  refine qI 17 (v := .bool (caF t 1 Q xk)) (off := 0 + (xk : Int).toNat * 1) rfl rfl rfl (bB_at (mixL_at _ _ hx3)) ?_
                  refine qD (i := 17) rfl (by decide +kernel) (qB (v := .bool _) rfl) ?_
                  refine wD (i := 18) rfl (by decide +kernel) rfl e1 ?_
                  refine wD (i := 19) rfl (by decide +kernel) rfl e1 ?_
                  refine wD (i := 20) rfl (by decide +kernel) rfl e1 ?_
                  refine wD (i := 21) rfl (by decide +kernel) rfl e1 ?_
                  refine wD (i := 22) rfl (by decide +kernel) rfl e1 ?_
                  refine wD (i := 23) rfl (by decide +kernel) rfl e1 ?_
                  refine wD (i := 24) rfl (by decide +kernel) rfl e1 ?_
                  refine qD (i := 25) rfl (by decide +kernel) (wX rfl e1 (v := .bool _) rfl) ?_
                  refine qD (i := 26) rfl (by decide +kernel) (qB (v := .slice _ _ _) rfl) ?_
                  refine qD (i := 27) rfl (by decide +kernel) (qB (v := .int .i64 _) rfl) ?_
                  refine qD (i := 28) rfl (by decide +kernel) (qM rfl rfl rfl rfl (by omega) (by omega)) ?_
                  refine qL (i := 29) rfl (by decide +kernel) ?_
                  refine qV (v := .slice _ _ _) rfl rfl ((cD1.ext (zP (zP (zP (zP (zP (zP (zP (zP (zP (zP (zP (zP E_ia E_ib) E_ic) E_id) E_jj) GW) GV) E_q1) E_uw) E_jk) E_o) E_uz) E_xk)) 0 _ rfl) ?_
                  refine qD (i := 30) rfl (by decide +kernel) (qB (v := .int .i64 _) rfl) ?_
                  refine qD (i := 31) rfl (by decide +kernel) (qM rfl rfl rfl rfl (by omega) (by omega)) ?_
                  refine qL (i := 32) rfl (by decide +kernel) ?_
                  refine qI 18 (v := .bool (cdF t 1 Q xk)) (off := 0 + (xk : Int).toNat * 1) rfl rfl rfl (bB_at (mixL_at _ _ hx3)) ?_
                  refine qD (i := 33) rfl (by decide +kernel) (qB (v := .bool _) rfl) ?_
                  refine qY (i := 34) rfl (by decide +kernel) rfl e2 (qB (v := .slice _ _ _) rfl) ?_
                  refine qY (i := 35) rfl (by decide +kernel) rfl e2 (qB (v := .int .i64 _) rfl) ?_
                  refine qY (i := 36) rfl (by decide +kernel) rfl e2 (qM rfl rfl rfl rfl (by omega) (by omega)) ?_
                  refine zM (i := 37) rfl (by decide +kernel) rfl e2 ?_
                  refine qV (v := .slice _ _ _) rfl rfl ((cv.ext (zP (zP (zP (zP (zP E_q1 E_uw) E_jk) E_o) E_uz) E_xk)) 0 _ rfl) ?_
                  refine qY (i := 38) rfl (by decide +kernel) rfl e2 (qB (v := .int .i64 _) rfl) ?_
                  refine qY (i := 39) rfl (by decide +kernel) rfl e2 (qM rfl rfl rfl rfl (by omega) (by omega)) ?_
                  refine zM (i := 40) rfl (by decide +kernel) rfl e2 ?_
                  refine qV (v := .bool _) rfl rfl ((cf.ext (zP (zP (zP (zP (zP (zP (zP GW GV) E_q1) E_uw) E_jk) E_o) E_uz) E_xk)) 0 _ rfl) ?_
                  refine qY (i := 41) rfl (by decide +kernel) rfl e2 (qK (v := .bool _) rfl) ?_
                  refine qD (i := 42) rfl (by decide +kernel) (wY rfl e2 (v := .bool _) rfl) ?_
                  refine qD (i := 43) rfl (by decide +kernel) (qM rfl rfl rfl rfl (by omega) (by omega)) ?_
                  refine wI (i := 44) rfl (by decide +kernel) (by decide +kernel) ?_
                  refine qJ 17 (m := 1) (v := .bool true) (vs := [.bool true]) (off := 0 + (xk : Int).toNat * 1) (c' := bB (mixL (caF t 1 Q') (caF t 1 Q) 3 (xk + 1))) rfl rfl rfl rfl rfl rfl (Nat.ble_eq_true_of_le (by rw [bB_len, zG]; omega)) rfl (by rw [bB_set, zJ _ _ (by rw [hQ', ← ca_or hjt, e1]; rfl)]) ?_
                  refine qZ [_, _, _, _, _, _, _, _, _, _, _, _, _, _, _, _, _, _, _, _, _, _, _, _] rfl ?_
                  refine qD (i := 45) rfl (by decide +kernel) (qM rfl rfl rfl rfl (by omega) (by omega)) ?_
                  refine wI (i := 46) rfl (by decide +kernel) (by decide +kernel) ?_
                  refine qJ 18 (m := 1) (v := .bool (!(flT t u 1).causes.testBit xk)) (vs := [.bool (!(flT t u 1).causes.testBit xk)]) (off := 0 + (xk : Int).toNat * 1) (c' := bB (mixL (cdF t 1 Q') (cdF t 1 Q) 3 (xk + 1))) rfl rfl rfl rfl rfl rfl (Nat.ble_eq_true_of_le (by rw [bB_len, zG]; omega)) rfl (by rw [bB_set, zJ _ _ (by rw [hQ', ← cd_or hjt, e2]; rfl)]) ?_
                  refine qZ [_, _, _, _, _, _, _, _, _, _, _, _, _, _, _, _, _, _, _, _, _, _, _, _] rfl ?_
                  refine wW rfl ?_
                  refine qC rfl ?_
                  refine qA (qB (v := .int .i64 _) rfl) ?_
                  refine qA (qO rfl (by omega)) ?_
                  refine qA (qE (v := .int .i64 _) rfl) ?_
                  refine ⟨xk + 1, ⟨rfl, trivial⟩, rfl, rfl, E_xk, fun h3 E3 => by first | trivial | omega | (refine ⟨?_, ?_⟩ <;> omega), by first | omega | (dsimp only; omega), ?_⟩
                  repeat (first | exact qU _ _ _ | refine wB (by decide) ?_ | refine qS rfl ?_ | refine wZ (by decide +kernel) ?_)
                ·rcases Bool.eq_false_or_eq_true (cdF t 1 Q xk) with e2 | e2
                 ·skip
                  refine qT ?_
                  refine qF ?_
                  refine qN ?_
                  refine zB [] rfl rfl rfl ?_
                  refine qD (i := 0) rfl (by decide +kernel) (qB (v := .slice _ _ _) rfl) ?_
                  refine qD (i := 1) rfl (by decide +kernel) (qB (v := .int .i64 _) rfl) ?_
                  refine qD (i := 2) rfl (by decide +kernel) (qM rfl rfl rfl rfl (by omega) (by omega)) ?_
                  refine qL (i := 3) rfl (by decide +kernel) ?_
                  refine qV (v := .slice _ _ _) rfl rfl ((cA1.ext (zP (zP (zP (zP (zP (zP (zP (zP (zP (zP (zP (zP (zP FD E_ia) E_ib) E_ic) E_id) E_jj) GW) GV) E_q1) E_uw) E_jk) E_o) E_uz) E_xk)) 0 _ rfl) ?_
                  refine qD (i := 4) rfl (by decide +kernel) (qB (v := .int .i64 _) rfl) ?_
                  refine qD (i := 5) rfl (by decide +kernel) (qB (v := .slice _ _ _) rfl) ?_
                  refine qD (i := 6) rfl (by decide +kernel) (qB (v := .int .i64 _) rfl) ?_
                  refine qD (i := 7) rfl (by decide +kernel) (qM rfl rfl rfl rfl (by omega) (by omega)) ?_
                  refine qL (i := 8) rfl (by decide +kernel) ?_
                  refine qV (v := .slice _ _ _) rfl rfl ((cD1.ext (zP (zP (zP (zP (zP (zP (zP (zP (zP (zP (zP (zP E_ia E_ib) E_ic) E_id) E_jj) GW) GV) E_q1) E_uw) E_jk) E_o) E_uz) E_xk)) 0 _ rfl) ?_
                  refine qD (i := 9) rfl (by decide +kernel) (qB (v := .int .i64 _) rfl) ?_
                  refine qD (i := 10) rfl (by decide +kernel) (qB (v := .slice _ _ _) rfl) ?_
                  refine qD (i := 11) rfl (by decide +kernel) (qB (v := .int .i64 _) rfl) ?_
                  refine qD (i := 12) rfl (by decide +kernel) (qM rfl rfl rfl rfl (by omega) (by omega)) ?_
                  refine qL (i := 13) rfl (by decide +kernel) ?_
                  refine qV (v := .slice _ _ _) rfl rfl ((cA1.ext (zP (zP (zP (zP (zP (zP (zP (zP (zP (zP (zP (zP (zP FD E_ia) E_ib) E_ic) E_id) E_jj) GW) GV) E_q1) E_uw) E_jk) E_o) E_uz) E_xk)) 0 _ rfl) ?_
                  refine qD (i := 14) rfl (by decide +kernel) (qB (v := .int .i64 _) rfl) ?_
                  refine qD (i := 15) rfl (by decide +kernel) (qM rfl rfl rfl rfl (by omega) (by omega)) ?_
                  refine qL (i := 16) rfl (by decide +kernel) ?_
                  refine qI 17 (v := .bool (caF t 1 Q xk)) (off := 0 + (xk : Int).toNat * 1) rfl rfl rfl (bB_at (mixL_at _ _ hx3)) ?_
                  refine qD (i := 17) rfl (by decide +kernel) (qB (v := .bool _) rfl) ?_
                  refine qY (i := 18) rfl (by decide +kernel) rfl e1 (qB (v := .slice _ _ _) rfl) ?_
                  refine qY (i := 19) rfl (by decide +kernel) rfl e1 (qB (v := .int .i64 _) rfl) ?_
                  refine qY (i := 20) rfl (by decide +kernel) rfl e1 (qM rfl rfl rfl rfl (by omega) (by omega)) ?_
                  refine zM (i := 21) rfl (by decide +kernel) rfl e1 ?_
                  refine qV (v := .slice _ _ _) rfl rfl ((cv.ext (zP (zP (zP (zP (zP E_q1 E_uw) E_jk) E_o) E_uz) E_xk)) 0 _ rfl) ?_
                  refine qY (i := 22) rfl (by decide +kernel) rfl e1 (qB (v := .int .i64 _) rfl) ?_
                  refine qY (i := 23) rfl (by decide +kernel) rfl e1 (qM rfl rfl rfl rfl (by omega) (by omega)) ?_
                  refine zM (i := 24) rfl (by decide +kernel) rfl e1 ?_
                  refine qV (v := .bool _) rfl rfl ((cf.ext (zP (zP (zP (zP (zP (zP (zP GW GV) E_q1) E_uw) E_jk) E_o) E_uz) E_xk)) 0 _ rfl) ?_
                  refine qD (i := 25) rfl (by decide +kernel) (wY rfl e1 (v := .bool _) rfl) ?_
                  refine qD (i := 26) rfl (by decide +kernel) (qB (v := .slice _ _ _) rfl) ?_
                  refine qD (i := 27) rfl (by decide +kernel) (qB (v := .int .i64 _) rfl) ?_
                  refine qD (i := 28) rfl (by decide +kernel) (qM rfl rfl rfl rfl (by omega) (by omega)) ?_
                  refine qL (i := 29) rfl (by decide +kernel) ?_
                  refine qV (v := .slice _ _ _) rfl rfl ((cD1.ext (zP (zP (zP (zP (zP (zP (zP (zP (zP (zP (zP (zP E_ia E_ib) E_ic) E_id) E_jj) GW) GV) E_q1) E_uw) E_jk) E_o) E_uz) E_xk)) 0 _ rfl) ?_
                  refine qD (i := 30) rfl (by decide +kernel) (qB (v := .int .i64 _) rfl) ?_
                  refine qD (i := 31) rfl (by decide +kernel) (qM rfl rfl rfl rfl (by omega) (by omega)) ?_
                  refine qL (i := 32) rfl (by decide +kernel) ?_
                  refine qI 18 (v := .bool (cdF t 1 Q xk)) (off := 0 + (xk : Int).toNat * 1) rfl rfl rfl (bB_at (mixL_at _ _ hx3)) ?_
                  refine qD (i := 33) rfl (by decide +kernel) (qB (v := .bool _) rfl) ?_
                  refine wD (i := 34) rfl (by decide +kernel) rfl e2 ?_
                  refine wD (i := 35) rfl (by decide +kernel) rfl e2 ?_
                  refine wD (i := 36) rfl (by decide +kernel) rfl e2 ?_
                  refine wD (i := 37) rfl (by decide +kernel) rfl e2 ?_
                  refine wD (i := 38) rfl (by decide +kernel) rfl e2 ?_
                  refine wD (i := 39) rfl (by decide +kernel) rfl e2 ?_
                  refine wD (i := 40) rfl (by decide +kernel) rfl e2 ?_
                  refine wD (i := 41) rfl (by decide +kernel) rfl e2 ?_
                  refine qD (i := 42) rfl (by decide +kernel) (wX rfl e2 (v := .bool _) rfl) ?_
                  refine qD (i := 43) rfl (by decide +kernel) (qM rfl rfl rfl rfl (by omega) (by omega)) ?_
                  refine wI (i := 44) rfl (by decide +kernel) (by decide +kernel) ?_
                  refine qJ 17 (m := 1) (v := .bool ((flT t u 1).causes.testBit xk)) (vs := [.bool ((flT t u 1).causes.testBit xk)]) (off := 0 + (xk : Int).toNat * 1) (c' := bB (mixL (caF t 1 Q') (caF t 1 Q) 3 (xk + 1))) rfl rfl rfl rfl rfl rfl (Nat.ble_eq_true_of_le (by rw [bB_len, zG]; omega)) rfl (by rw [bB_set, zJ _ _ (by rw [hQ', ← ca_or hjt, e1]; rfl)]) ?_
                  refine qZ [_, _, _, _, _, _, _, _, _, _, _, _, _, _, _, _, _, _, _, _, _, _, _, _] rfl ?_
                  refine qD (i := 45) rfl (by decide +kernel) (qM rfl rfl rfl rfl (by omega) (by omega)) ?_
                  refine wI (i := 46) rfl (by decide +kernel) (by decide +kernel) ?_
                  refine qJ 18 (m := 1) (v := .bool true) (vs := [.bool true]) (off := 0 + (xk : Int).toNat * 1) (c' := bB (mixL (cdF t 1 Q') (cdF t 1 Q) 3 (xk + 1))) rfl rfl rfl rfl rfl rfl (Nat.ble_eq_true_of_le (by rw [bB_len, zG]; omega)) rfl (by rw [bB_set, zJ _ _ (by rw [hQ', ← cd_or hjt, e2]; rfl)]) ?_
                  refine qZ [_, _, _, _, _, _, _, _, _, _, _, _, _, _, _, _, _, _, _, _, _, _, _, _] rfl ?_
                  refine wW rfl ?_
                  refine qC rfl ?_
                  refine qA (qB (v := .int .i64 _) rfl) ?_
                  refine qA (qO rfl (by omega)) ?_
                  refine qA (qE (v := .int .i64 _) rfl) ?_
                  refine ⟨xk + 1, ⟨rfl, trivial⟩, rfl, rfl, E_xk, fun h3 E3 => by first | trivial | omega | (refine ⟨?_, ?_⟩ <;> omega), by first | omega | (dsimp only; omega), ?_⟩
                  repeat (first | exact qU _ _ _ | refine wB (by decide) ?_ | refine qS rfl ?_ | refine wZ (by decide +kernel) ?_)
                 ·skip
                  refine qT ?_
                  refine qF ?_
                  refine qN ?_
                  refine zB [] rfl rfl rfl ?_
                  refine qD (i := 0) rfl (by decide +kernel) (qB (v := .slice _ _ _) rfl) ?_
                  refine qD (i := 1) rfl (by decide +kernel) (qB (v := .int .i64 _) rfl) ?_
                  refine qD (i := 2) rfl (by decide +kernel) (qM rfl rfl rfl rfl (by omega) (by omega)) ?_
                  refine qL (i := 3) rfl (by decide +kernel) ?_
                  refine qV (v := .slice _ _ _) rfl rfl ((cA1.ext (zP (zP (zP (zP (zP (zP (zP (zP (zP (zP (zP (zP (zP FD E_ia) E_ib) E_ic) E_id) E_jj) GW) GV) E_q1) E_uw) E_jk) E_o) E_uz) E_xk)) 0 _ rfl) ?_
                  refine qD (i := 4) rfl (by decide +kernel) (qB (v := .int .i64 _) rfl) ?_
                  refine qD (i := 5) rfl (by decide +kernel) (qB (v := .slice _ _ _) rfl) ?_
                  refine qD (i := 6) rfl (by decide +kernel) (qB (v := .int .i64 _) rfl) ?_
                  refine qD (i := 7) rfl (by decide +kernel) (qM rfl rfl rfl rfl (by omega) (by omega)) ?_
                  refine qL (i := 8) rfl (by decide +kernel) ?_
                  refine qV (v := .slice _ _ _) rfl rfl ((cD1.ext (zP (zP (zP (zP (zP (zP (zP (zP (zP (zP (zP (zP E_ia E_ib) E_ic) E_id) E_jj) GW) GV) E_q1) E_uw) E_jk) E_o) E_uz) E_xk)) 0 _ rfl) ?_
                  refine qD (i := 9) rfl (by decide +kernel) (qB (v := .int .i64 _) rfl) ?_
                  refine qD (i := 10) rfl (by decide +kernel) (qB (v := .slice _ _ _) rfl) ?_
                  refine qD (i := 11) rfl (by decide +kernel) (qB (v := .int .i64 _) rfl) ?_
                  refine qD (i := 12) rfl (by decide +kernel) (qM rfl rfl rfl rfl (by omega) (by omega)) ?_
                  refine qL (i := 13) rfl (by decide +kernel) ?_
                  refine qV (v := .slice _ _ _) rfl rfl ((cA1.ext (zP (zP (zP (zP (zP (zP (zP (zP (zP (zP (zP (zP (zP FD E_ia) E_ib) E_ic) E_id) E_jj) GW) GV) E_q1) E_uw) E_jk) E_o) E_uz) E_xk)) 0 _ rfl) ?_
                  refine qD (i := 14) rfl (by decide +kernel) (qB (v := .int .i64 _) rfl) ?_
                  refine qD (i := 15) rfl (by decide +kernel) (qM rfl rfl rfl rfl (by omega) (by omega)) ?_
                  refine qL (i := 16) rfl (by decide +kernel) ?_
                  refine qI 17 (v := .bool (caF t 1 Q xk)) (off := 0 + (xk : Int).toNat * 1) rfl rfl rfl (bB_at (mixL_at _ _ hx3)) ?_
                  refine qD (i := 17) rfl (by decide +kernel) (qB (v := .bool _) rfl) ?_
                  refine qY (i := 18) rfl (by decide +kernel) rfl e1 (qB (v := .slice _ _ _) rfl) ?_
                  refine qY (i := 19) rfl (by decide +kernel) rfl e1 (qB (v := .int .i64 _) rfl) ?_
                  refine qY (i := 20) rfl (by decide +kernel) rfl e1 (qM rfl rfl rfl rfl (by omega) (by omega)) ?_
                  refine zM (i := 21) rfl (by decide +kernel) rfl e1 ?_
                  refine qV (v := .slice _ _ _) rfl rfl ((cv.ext (zP (zP (zP (zP (zP E_q1 E_uw) E_jk) E_o) E_uz) E_xk)) 0 _ rfl) ?_
                  refine qY (i := 22) rfl (by decide +kernel) rfl e1 (qB (v := .int .i64 _) rfl) ?_
                  refine qY (i := 23) rfl (by decide +kernel) rfl e1 (qM rfl rfl rfl rfl (by omega) (by omega)) ?_
                  refine zM (i := 24) rfl (by decide +kernel) rfl e1 ?_
                  refine qV (v := .bool _) rfl rfl ((cf.ext (zP (zP (zP (zP (zP (zP (zP GW GV) E_q1) E_uw) E_jk) E_o) E_uz) E_xk)) 0 _ rfl) ?_
                  refine qD (i := 25) rfl (by decide +kernel) (wY rfl e1 (v := .bool _) rfl) ?_
                  refine qD (i := 26) rfl (by decide +kernel) (qB (v := .slice _ _ _) rfl) ?_
                  refine qD (i := 27) rfl (by decide +kernel) (qB (v := .int .i64 _) rfl) ?_
                  refine qD (i := 28) rfl (by decide +kernel) (qM rfl rfl rfl rfl (by omega) (by omega)) ?_
                  refine qL (i := 29) rfl (by decide +kernel) ?_
                  refine qV (v := .slice _ _ _) rfl rfl ((cD1.ext (zP (zP (zP (zP (zP (zP (zP (zP (zP (zP (zP (zP E_ia E_ib) E_ic) E_id) E_jj) GW) GV) E_q1) E_uw) E_jk) E_o) E_uz) E_xk)) 0 _ rfl) ?_
                  refine qD (i := 30) rfl (by decide +kernel) (qB (v := .int .i64 _) rfl) ?_
                  refine qD (i := 31) rfl (by decide +kernel) (qM rfl rfl rfl rfl (by omega) (by omega)) ?_
                  refine qL (i := 32) rfl (by decide +kernel) ?_
                  refine qI 18 (v := .bool (cdF t 1 Q xk)) (off := 0 + (xk : Int).toNat * 1) rfl rfl rfl (bB_at (mixL_at _ _ hx3)) ?_
                  refine qD (i := 33) rfl (by decide +kernel) (qB (v := .bool _) rfl) ?_
                  refine qY (i := 34) rfl (by decide +kernel) rfl e2 (qB (v := .slice _ _ _) rfl) ?_
                  refine qY (i := 35) rfl (by decide +kernel) rfl e2 (qB (v := .int .i64 _) rfl) ?_
                  refine qY (i := 36) rfl (by decide +kernel) rfl e2 (qM rfl rfl rfl rfl (by omega) (by omega)) ?_
                  refine zM (i := 37) rfl (by decide +kernel) rfl e2 ?_
                  refine qV (v := .slice _ _ _) rfl rfl ((cv.ext (zP (zP (zP (zP (zP E_q1 E_uw) E_jk) E_o) E_uz) E_xk)) 0 _ rfl) ?_
                  refine qY (i := 38) rfl (by decide +kernel) rfl e2 (qB (v := .int .i64 _) rfl) ?_
                  refine qY (i := 39) rfl (by decide +kernel) rfl e2 (qM rfl rfl rfl rfl (by omega) (by omega)) ?_
                  refine zM (i := 40) rfl (by decide +kernel) rfl e2 ?_
                  refine qV (v := .bool _) rfl rfl ((cf.ext (zP (zP (zP (zP (zP (zP (zP GW GV) E_q1) E_uw) E_jk) E_o) E_uz) E_xk)) 0 _ rfl) ?_
                  refine qY (i := 41) rfl (by decide +kernel) rfl e2 (qK (v := .bool _) rfl) ?_
                  refine qD (i := 42) rfl (by decide +kernel) (wY rfl e2 (v := .bool _) rfl) ?_
                  refine qD (i := 43) rfl (by decide +kernel) (qM rfl rfl rfl rfl (by omega) (by omega)) ?_
                  refine wI (i := 44) rfl (by decide +kernel) (by decide +kernel) ?_
                  refine qJ 17 (m := 1) (v := .bool ((flT t u 1).causes.testBit xk)) (vs := [.bool ((flT t u 1).causes.testBit xk)]) (off := 0 + (xk : Int).toNat * 1) (c' := bB (mixL (caF t 1 Q') (caF t 1 Q) 3 (xk + 1))) rfl rfl rfl rfl rfl rfl (Nat.ble_eq_true_of_le (by rw [bB_len, zG]; omega)) rfl (by rw [bB_set, zJ _ _ (by rw [hQ', ← ca_or hjt, e1]; rfl)]) ?_
                  refine qZ [_, _, _, _, _, _, _, _, _, _, _, _, _, _, _, _, _, _, _, _, _, _, _, _] rfl ?_
                  refine qD (i := 45) rfl (by decide +kernel) (qM rfl rfl rfl rfl (by omega) (by omega)) ?_
                  refine wI (i := 46) rfl (by decide +kernel) (by decide +kernel) ?_
                  refine qJ 18 (m := 1) (v := .bool (!(flT t u 1).causes.testBit xk)) (vs := [.bool (!(flT t u 1).causes.testBit xk)]) (off := 0 + (xk : Int).toNat * 1) (c' := bB (mixL (cdF t 1 Q') (cdF t 1 Q) 3 (xk + 1))) rfl rfl rfl rfl rfl rfl (Nat.ble_eq_true_of_le (by rw [bB_len, zG]; omega)) rfl (by rw [bB_set, zJ _ _ (by rw [hQ', ← cd_or hjt, e2]; rfl)]) ?_
                  refine qZ [_, _, _, _, _, _, _, _, _, _, _, _, _, _, _, _, _, _, _, _, _, _, _, _] rfl ?_
                  refine wW rfl ?_
                  refine qC rfl ?_
                  refine qA (qB (v := .int .i64 _) rfl) ?_
                  refine qA (qO rfl (by omega)) ?_
                  refine qA (qE (v := .int .i64 _) rfl) ?_
                  refine ⟨xk + 1, ⟨rfl, trivial⟩, rfl, rfl, E_xk, fun h3 E3 => by first | trivial | omega | (refine ⟨?_, ?_⟩ <;> omega), by first | omega | (dsimp only; omega), ?_⟩
                  repeat (first | exact qU _ _ _ | refine wB (by decide) ?_ | refine qS rfl ?_ | refine wZ (by decide +kernel) ?_)
               ·skip
                have hxe : xk = 3 := by have := of_decide_eq_false hxk; omega
                subst hxe
                refine qP [_, _, _, _, _, _, _, _, _, _, _, some (fi, .cells (bB (mixL (fiF t Q') (fiF t Q) 2 2)).toArray 4 (0, 0)), some (la, .cells (bB (mixL (laF t Q') (laF t Q) 2 2)).toArray 4 (0, 0)), some (m0, .cells (bB (metB t 0 Q')).toArray 4 (0, 0)), some (a0, .cells (bB (caB t 0 Q')).toArray 4 (0, 0)), some (d0, .cells (bB (cdB t 0 Q')).toArray 4 (0, 0)), some (m1, .cells (bB (metB t 1 Q')).toArray 4 (0, 0)), some (a1, .cells (bB (caB t 1 Q')).toArray 4 (0, 0)), some (d1, .cells (bB (cdB t 1 Q')).toArray 4 (0, 0)), _, _, _, _, _] (by rw [mixL_all (caF t 1 Q') (caF t 1 Q) (fun i h1 h2 => by omega), mixL_all (cdF t 1 Q') (cdF t 1 Q) (fun i h1 h2 => by omega)]; rfl) ?_
                refine wU ?_
                refine qF ?_
                refine qC rfl ?_
                refine qA (qB (v := .slice _ _ _) rfl) ?_
                refine qA (qB (v := .int .i64 _) rfl) ?_
                refine qA (qM rfl rfl rfl rfl (by omega) (by omega)) ?_
                refine qV (v := .int .i64 _) rfl rfl ((cw.ext (zP (zP (zP (zP (zP (zP GV E_q1) E_uw) E_jk) E_o) E_uz) E_xk)) 0 _ rfl) ?_
                refine qA (qB (v := .int .i64 _) rfl) ?_
                refine qA (qK (v := .bool _) rfl) ?_
                have hcb := cntT_le t u (wk : Int) 1
                have hcs : cntT t u (wk : Int) 2 = cntT t u (wk : Int) 1 + if ((flT t u 1).week : Int) > (wk : Int) then 1 else 0 := rfl
                have hcs0 : cntT t u (wk : Int) 0 = 0 := rfl
                refine wA rfl (fun hn => ?_) (fun hn => ?_)
                ·skip
                 have hn1 := of_decide_eq_true hn
                 refine qC rfl ?_
                 refine qA (qB (v := .int .i64 _) rfl) ?_
                 refine qA (qO rfl (by omega)) ?_
                 refine qA (qE (v := .int .i64 _) rfl) ?_
                 refine qC rfl ?_
                 refine qA (qB (v := .int .i64 _) rfl) ?_
                 refine qA (qO rfl (by omega)) ?_
                 refine qA (qE (v := .int .i64 _) rfl) ?_
                 refine ⟨2, ⟨rfl, intE (by rw [hcs, if_pos hn1]; first | omega | (rw [hcs0]; omega)), trivial⟩, rfl, rfl, (zP (zP (zP E_jk E_o) E_uz) E_xk), fun h3 E3 => hjt, by first | omega | (dsimp only; omega), ?_⟩
                 repeat (first | exact qU _ _ _ | refine wB (by decide) ?_ | refine qS rfl ?_ | refine wZ (by decide +kernel) ?_)
                ·skip
                 have hn1 := of_decide_eq_false hn
                 refine qT ?_
                 refine qC rfl ?_
                 refine qA (qB (v := .int .i64 _) rfl) ?_
                 refine qA (qO rfl (by omega)) ?_
                 refine qA (qE (v := .int .i64 _) rfl) ?_
                 refine ⟨2, ⟨rfl, intE (by rw [hcs, if_neg hn1]; first | omega | (rw [hcs0]; omega)), trivial⟩, rfl, rfl, (zP (zP (zP E_jk E_o) E_uz) E_xk), fun h3 E3 => hjt, by first | omega | (dsimp only; omega), ?_⟩
                 repeat (first | exact qU _ _ _ | refine wB (by decide) ?_ | refine qS rfl ?_ | refine wZ (by decide +kernel) ?_)
           ·skip
            have hje : jk = t.joints.length := by have := geI hjk; omega
            subst hje
            refine qP [_, _, _, _, _, _, _, _, _, _, _, some (fi, .cells (bB (fiB t Q')).toArray 4 (0, 0)), some (la, .cells (bB (laB t Q')).toArray 4 (0, 0)), some (m0, .cells (bB (metB t 0 Q')).toArray 4 (0, 0)), some (a0, .cells (bB (caB t 0 Q')).toArray 4 (0, 0)), some (d0, .cells (bB (cdB t 0 Q')).toArray 4 (0, 0)), some (m1, .cells (bB (metB t 1 Q')).toArray 4 (0, 0)), some (a1, .cells (bB (caB t 1 Q')).toArray 4 (0, 0)), some (d1, .cells (bB (cdB t 1 Q')).toArray 4 (0, 0)), _, _, _, _, _] (by rw [fi_end, la_end, met_end, met_end, ca_end, ca_end, cd_end, cd_end]) ?_
            refine wU ?_
            refine qC rfl ?_
            refine qA (qG rfl rfl rfl rfl 0 rfl) ?_
            refine qI 19 (v := .int .i64 _) rfl rfl rfl rfl ?_
            refine qA (qB (v := .int .i64 _) rfl) ?_
            refine qA (pv_min rfl rfl) ?_
            refine qA (qG rfl rfl rfl rfl 1 rfl) ?_
            refine qI 19 (v := .int .i64 _) rfl rfl rfl rfl ?_
            refine qA (qB (v := .int .i64 _) rfl) ?_
            refine qA (pv_max rfl rfl) ?_
            refine wP (caps := []) (vs := [.int .i64 _, .int .i64 _]) rfl rfl rfl (to_ok (min (soundT' t (wk : Int) Q).mn (cntT t u (wk : Int) t.joints.length : Nat)) (max (soundT' t (wk : Int) Q).mx (cntT t u (wk : Int) t.joints.length : Nat)) h_jk) ?_
            rintro _ kS DS rfl
            refine qJ 19 (v := .agg #[.int .i64 _, .int .i64 _]) (vs := [_, _]) (c' := [_, _]) rfl rfl rfl rfl rfl rfl rfl rfl rfl ?_
            refine qH [_, _, _, _, _, _, _, _, _, _, _, _, _, _, _, _, _, _, _, _, _, _, _, _] rfl ?_
            refine qC rfl ?_
            refine qA (qB (v := .int .i64 _) rfl) ?_
            refine qA (qO rfl (by omega)) ?_
            refine qA (qE (v := .int .i64 _) rfl) ?_
            refine ⟨(id + 1, Q', ⟨some (q1, .cells ((lowR t.heats.length (lowS Q')).flatMap rgC).toArray 41 (0, 0)), some ⟨q1, 0, none⟩, t.heats.length, t.heats.length⟩, ⟨some (q2, .cells ((lowR t.heats.length (highS Q')).flatMap rgC).toArray 41 (0, 0)), some ⟨q2, 0, none⟩, t.heats.length, t.heats.length⟩), ⟨rfl, rfl, rfl, (by rw [hQ', show (Q ++ [u]).isEmpty = false from by simp]; first | done | rfl), trivial⟩, rfl, (by rw [hQ', snd_snoc]; rfl), (zP (zP (zP (zP (zP (zP (zP E_id E_jj) GW) GV) E_q1) E_uw) E_jk) DS), fun h3 E3 => ⟨hdl2, by rw [hPe, fine_snoc hfu, ← KQ, hQ'], .inr ⟨by rw [hQ']; simp, q1, rfl⟩, .inr ⟨by rw [hQ']; simp, q2, rfl⟩⟩, by first | omega | (dsimp only; omega), ?_⟩
            repeat (first | exact qU _ _ _ | refine wB (by decide) ?_ | refine qS rfl ?_ | refine wZ (by decide +kernel) ?_)
      ·skip
       have hle : id = (ownL t 1).length := by have := geI hd'; omega
       subst hle
       refine wU ?_
       refine qC rfl ?_
       refine qA (qB (v := .int .i64 _) rfl) ?_
       refine qA (qO rfl (by omega)) ?_
       refine qA (qE (v := .int .i64 _) rfl) ?_
       refine ⟨(ic + 1, Q, al, ah), ⟨rfl, rfl, rfl, rfl, trivial⟩, rfl, rfl, (zP E_ic E_id), fun h3 E3 => ⟨hcl, by rw [← lvl_next hcl hPc hcc, KQ, List.take_length]; rfl, Kl, Kh⟩, by first | omega | (dsimp only; omega), ?_⟩
       repeat (first | exact qU _ _ _ | refine wB (by decide) ?_ | refine qS rfl ?_ | refine wZ (by decide +kernel) ?_)
     ·skip
      have hle : ic = (ownL t 0).length := by have := geI hc'; omega
      subst hle
      refine wU ?_
      refine qC rfl ?_
      refine qA (qB (v := .int .i64 _) rfl) ?_
      refine qA (qO rfl (by omega)) ?_
      refine qA (qE (v := .int .i64 _) rfl) ?_
      refine ⟨(ib + 1, Q, al, ah), ⟨rfl, rfl, rfl, rfl, trivial⟩, rfl, rfl, (zP E_ib E_ic), fun h3 E3 => ⟨hbl, by rw [← lvl_next hbl hPb hy, KQ, List.take_length]; rfl, Kl, Kh⟩, by first | omega | (dsimp only; omega), ?_⟩
      repeat (first | exact qU _ _ _ | refine wB (by decide) ?_ | refine qS rfl ?_ | refine wZ (by decide +kernel) ?_)
    ·skip
     have hle : ib = (chL t.damps).length := by have := geI hb; omega
     subst hle
     refine wU ?_
     refine qC rfl ?_
     refine qA (qB (v := .int .i64 _) rfl) ?_
     refine qA (qO rfl (by omega)) ?_
     refine qA (qE (v := .int .i64 _) rfl) ?_
     refine ⟨(ia + 1, Q, al, ah), ⟨rfl, rfl, rfl, rfl, trivial⟩, rfl, rfl, (zP E_ia E_ib), fun h3 E3 => ⟨hal, by rw [take_snocF hal, ← hPa, ← hx, KQ, List.take_length]; rfl, Kl, Kh⟩, by first | omega | (dsimp only; omega), ?_⟩
     repeat (first | exact qU _ _ _ | refine wB (by decide) ?_ | refine qS rfl ?_ | refine wZ (by decide +kernel) ?_)
   ·skip
    have hle : ia = (chL t.heats).length := by have := geI ha; omega
    subst hle
    rw [List.take_length, ← truths_eq] at KQ
    have KQ : Q = goodT t := KQ
    clear K1 ha
    rcases Kl with ⟨hQ, rfl⟩ | ⟨hQ, q1, rfl⟩
    ·skip
     obtain ⟨k1, k2, k3, k4, k5, k6, k7⟩ := all_none CT jT (by rw [← KQ]; exact hQ) hwk
     have h00 : ([] : List Rg).length = 0 := rfl
     have h01 : ([] : List Int).length = 0 := rfl
     subst hQ
     refine wU ?_
     refine qF ?_
     refine qC rfl ?_
     refine qX 3 (vs := [.slice _ _ _, .slice _ _ _, .slice _ _ _, .slice _ _ _]) rfl rfl rfl rfl rfl ?_
     have HW1 := Weather_ok t Sm 1 A0 A1 A5 A7 c0 c1 c5 c7 h_ia (RS.ext (zP (zP (zP (zP (zP (zP (zP (zP (zP (zP (zP F8 F9) E_j) FO) EX) EY) EP) ET) FM) FA) FD) E_ia))
     rw [k1, k5] at HW1
     refine wP (caps := []) (vs := [.agg #[.slice _ _ _, .slice _ _ _, .slice _ _ _, .slice _ _ _], .int .i64 _]) rfl rfl rfl (HW1) ?_
     rintro _ hw1 EW1 ⟨_, rfl, X1, xc1, rfl, XR1⟩
     refine qA (qB (v := .tuple #[.slice _ _ _, .int .i64 _]) rfl) ?_
     refine qA (qK (v := .slice _ _ _) rfl) ?_
     refine qA (qK (v := .int .i64 _) rfl) ?_
     refine qA (qE (v := .slice _ _ _) rfl) ?_
     refine qA (qE (v := .int .i64 _) rfl) ?_
     refine qF ?_
     refine qC rfl ?_
     refine qX 3 (vs := [.slice _ _ _, .slice _ _ _, .slice _ _ _, .slice _ _ _]) rfl rfl rfl rfl rfl ?_
     have HW2 := Weather_ok t Sm 2 A0 A1 A5 A7 c0 c1 c5 c7 hw1 (RS.ext (zP (zP (zP (zP (zP (zP (zP (zP (zP (zP (zP (zP F8 F9) E_j) FO) EX) EY) EP) ET) FM) FA) FD) E_ia) EW1))
     rw [k2, k6] at HW2
     refine wP (caps := []) (vs := [.agg #[.slice _ _ _, .slice _ _ _, .slice _ _ _, .slice _ _ _], .int .i64 _]) rfl rfl rfl (HW2) ?_
     rintro _ hw2 EW2 ⟨_, rfl, X2, xc2, rfl, XR2⟩
     refine qA (qB (v := .tuple #[.slice _ _ _, .int .i64 _]) rfl) ?_
     refine qA (qK (v := .slice _ _ _) rfl) ?_
     refine qA (qK (v := .int .i64 _) rfl) ?_
     refine qA (qE (v := .slice _ _ _) rfl) ?_
     refine qA (qE (v := .int .i64 _) rfl) ?_
     refine qF ?_
     refine qC rfl ?_
     refine qX 3 (vs := [.slice _ _ _, .slice _ _ _, .slice _ _ _, .slice _ _ _]) rfl rfl rfl rfl rfl ?_
     have HF1 := First_ok t Sm A0 A1 A5 A7 c0 c1 c5 c7 hw2 (RS.ext (zP (zP (zP (zP (zP (zP (zP (zP (zP (zP (zP (zP (zP F8 F9) E_j) FO) EX) EY) EP) ET) FM) FA) FD) E_ia) EW1) EW2))
     rw [k3, k7] at HF1
     refine wP (caps := []) (vs := [.agg #[.slice _ _ _, .slice _ _ _, .slice _ _ _, .slice _ _ _]]) rfl rfl rfl (HF1) ?_
     rintro _ hf1 EF1 ⟨_, rfl, X3, xc3, rfl, XR3⟩
     refine qA (qB (v := .tuple #[.slice _ _ _, .int .i64 _]) rfl) ?_
     refine qA (qK (v := .slice _ _ _) rfl) ?_
     refine qA (qK (v := .int .i64 _) rfl) ?_
     refine qA (qE (v := .slice _ _ _) rfl) ?_
     refine qA (qE (v := .int .i64 _) rfl) ?_
     refine qF ?_
     refine qC rfl ?_
     refine qX 3 (vs := [.slice _ _ _, .slice _ _ _, .slice _ _ _, .slice _ _ _]) rfl rfl rfl rfl rfl ?_
     refine qA (qB (v := .int .i64 _) rfl) ?_
     have HS1 := Sound_ok t Sm (wk : Int) A0 A1 A5 A7 c0 c1 c5 c7 hf1 (RS.ext (zP (zP (zP (zP (zP (zP (zP (zP (zP (zP (zP (zP (zP (zP F8 F9) E_j) FO) EX) EY) EP) ET) FM) FA) FD) E_ia) EW1) EW2) EF1))
     rw [k4] at HS1
     refine wP (caps := []) (vs := [.agg #[.slice _ _ _, .slice _ _ _, .slice _ _ _, .slice _ _ _], .int .i64 _]) rfl rfl rfl (HS1) ?_
     rintro _ hs1 ES1 rfl
     refine qA (qB (v := .tuple #[.agg #[.int .i64 _, .int .i64 _], .int .i64 _]) rfl) ?_
     refine qA (qK (v := .agg #[.int .i64 _, .int .i64 _]) rfl) ?_
     refine qA (qK (v := .int .i64 _) rfl) ?_
     refine wO (cs := [_, _]) rfl rfl fun b50 hb50 => ?_
     refine qH [_, _, _, _, _, _, _, _, _, _, _, _, _, _, _, _, _, _, _, _, _, _, _] rfl ?_
     refine qJ 22 (v := .agg #[.int .i64 _, .int .i64 _]) (vs := [_, _]) (c' := [_, _]) rfl rfl rfl rfl rfl rfl rfl rfl rfl ?_
     refine qH [_, _, _, _, _, _, _, _, _, _, _, _, _, _, _, _, _, _, _, _, _, _, _] rfl ?_
     refine qA (qE (v := .int .i64 _) rfl) ?_
     refine qF ?_
     refine qF ?_
     refine qC rfl ?_
     refine qA (qB (v := .bool _) rfl) ?_
     refine qA (qK (v := .bool _) rfl) ?_
     refine xp_condT rfl (rfl) ?_
     refine qF ?_
     refine qC rfl ?_
     refine qA (qB (v := .int .i64 _) rfl) ?_
     refine qA (qK (v := .bool _) rfl) ?_
     refine qA (qB (v := .bool _) rfl) ?_
     refine qQ rfl rfl ?_
     refine qA (qB (v := .int .i64 _) rfl) ?_
     refine qQ rfl rfl ?_
     refine qA (qB (v := .int .i64 _) rfl) ?_
     refine qQ rfl rfl ?_
     refine qA (qK (v := .bool _) rfl) ?_
     refine qA (wX rfl rfl (v := .bool _) rfl) ?_
     refine qA (qB (v := .bool _) rfl) ?_
     refine qQ rfl rfl ?_
     refine qA (qB (v := .int .i64 _) rfl) ?_
     refine qQ rfl rfl ?_
     refine qA (qB (v := .int .i64 _) rfl) ?_
     refine qQ rfl rfl ?_
     refine qA (qK (v := .bool _) rfl) ?_
     refine qA (wX rfl rfl (v := .bool _) rfl) ?_
     refine qA (qB (v := .bool _) rfl) ?_
     refine qQ rfl rfl ?_
     refine qA (qB (v := .int .i64 _) rfl) ?_
     refine qQ rfl rfl ?_
     refine qA (qB (v := .int .i64 _) rfl) ?_
     refine qQ rfl rfl ?_
     refine qA (qK (v := .bool _) rfl) ?_
     refine qA (wX rfl rfl (v := .bool _) rfl) ?_
     refine qA (qB (v := .bool _) rfl) ?_
     refine qQ rfl rfl ?_
     refine qA (qB (v := .slice _ _ _) rfl) ?_
     refine qQ rfl rfl ?_
     refine qA (wV rfl rfl) ?_
     refine qQ rfl rfl ?_
     refine qA (qB (v := .slice _ _ _) rfl) ?_
     refine qQ rfl rfl ?_
     refine qA (wV rfl rfl) ?_
     refine qQ rfl rfl ?_
     refine qA (qO rfl (by omega)) ?_
     refine qQ rfl rfl ?_
     refine qA (qB (v := .slice _ _ _) rfl) ?_
     refine qQ rfl rfl ?_
     refine qA (wV rfl rfl) ?_
     refine qQ rfl rfl ?_
     refine qA (qO rfl (by omega)) ?_
     refine qQ rfl rfl ?_
     refine qA (qK (v := .bool _) rfl) ?_
     refine qA (wX rfl rfl (v := .bool _) rfl) ?_
     refine qA (qB (v := .bool _) rfl) ?_
     refine qQ rfl rfl ?_
     refine wP (caps := []) (vs := []) rfl rfl rfl (warm_ok hs1) ?_
     rintro _ hz Ez rfl
     refine qA (wX rfl rfl (v := .bool _) rfl) ?_
     refine qA (qE (v := .bool _) rfl) ?_
     refine wK ?_
     exact ⟨rfl, fun V => (zP (zP (zP (zP (zP (zP (zP (zP (zP (zP (zP (zP (zP (zP (zP (zP (zP (zP (zP (zP (zP (zP E1 E2) G5) E_z) G7) F8) F9) E_j) FO) EX) EY) EP) ET) FM) FA) FD) E_ia) EW1) EW2) EF1) ES1) Ez) (wE V)), rfl⟩
    ·skip
     rcases Kh with ⟨hQ2, _⟩ | ⟨_, q2, rfl⟩
     ·exact absurd hQ2 hQ
     ·obtain ⟨k1, k2, k3, k4, k5, k6, k7, k8⟩ := all_some CT jT (by rw [← KQ]; exact hQ) hwk
      rw [← KQ] at k5 k6 k8
      have hne : goodT t ≠ [] := by rw [← KQ]; exact hQ
      have lrl : (lowR t.heats.length (lowS Q)).length = t.heats.length := lowR_len _ _
      have hrl : (lowR t.heats.length (highS Q)).length = t.heats.length := lowR_len _ _
      refine zH 20 rfl ?_
      intro gL FL PL
      refine zH 21 rfl ?_
      intro gH FH PH
      refine zH 11 rfl ?_
      intro gF FF PF
      refine zH 12 rfl ?_
      intro gl Fl' Pl
      refine zH 13 rfl ?_
      intro gm0 Fm0 Pm0
      refine zH 14 rfl ?_
      intro ga0 Fa0 Pa0
      refine zH 15 rfl ?_
      intro gd0 Fd0 Pd0
      refine zH 16 rfl ?_
      intro gm1 Fm1 Pm1
      refine zH 17 rfl ?_
      intro ga1 Fa1 Pa1
      refine zH 18 rfl ?_
      intro gd1 Fd1 Pd1
      have RLo : Row gd1 2 rgC (some ⟨q1, 0, none⟩) (lowR t.heats.length (lowS Q)) := (row_blk (enc := rgC) (fun _ _ => rfl) PL).ext (zP (zP (zP (zP (zP (zP (zP (zP FH FF) Fl') Fm0) Fa0) Fd0) Fm1) Fa1) Fd1)
      have RHi : Row gd1 2 rgC (some ⟨q2, 0, none⟩) (lowR t.heats.length (highS Q)) := (row_blk (enc := rgC) (fun _ _ => rfl) PH).ext (zP (zP (zP (zP (zP (zP (zP FF Fl') Fm0) Fa0) Fd0) Fm1) Fa1) Fd1)
      have RFi : Row gd1 1 booC (some ⟨fi, 0, none⟩) (fiB t Q) := (row_bB PF).ext (zP (zP (zP (zP (zP (zP Fl' Fm0) Fa0) Fd0) Fm1) Fa1) Fd1)
      have RLa : Row gd1 1 booC (some ⟨la, 0, none⟩) (laB t Q) := (row_bB Pl).ext (zP (zP (zP (zP (zP Fm0 Fa0) Fd0) Fm1) Fa1) Fd1)
      have Rm0 : Row gd1 1 booC (some ⟨m0, 0, none⟩) (metB t 0 Q) := (row_bB Pm0).ext (zP (zP (zP (zP Fa0 Fd0) Fm1) Fa1) Fd1)
      have Ra0 : Row gd1 1 booC (some ⟨a0, 0, none⟩) (caB t 0 Q) := (row_bB Pa0).ext (zP (zP (zP Fd0 Fm1) Fa1) Fd1)
      have Rd0 : Row gd1 1 booC (some ⟨d0, 0, none⟩) (cdB t 0 Q) := (row_bB Pd0).ext (zP (zP Fm1 Fa1) Fd1)
      have Rm1 : Row gd1 1 booC (some ⟨m1, 0, none⟩) (metB t 1 Q) := (row_bB Pm1).ext (zP Fa1 Fd1)
      have Ra1 : Row gd1 1 booC (some ⟨a1, 0, none⟩) (caB t 1 Q) := (row_bB Pa1).ext Fd1
      have Rd1 : Row gd1 1 booC (some ⟨d1, 0, none⟩) (cdB t 1 Q) := (row_bB Pd1).ext (Ext.refl _)
      refine wU ?_
      refine qF ?_
      refine qC rfl ?_
      refine qX 3 (vs := [.slice _ _ _, .slice _ _ _, .slice _ _ _, .slice _ _ _]) rfl rfl rfl rfl rfl ?_
      have HW1 := Weather_ok t Sm 1 A0 A1 A5 A7 c0 c1 c5 c7 gd1 (RS.ext (zP (zP (zP (zP (zP (zP (zP (zP (zP (zP (zP (zP (zP (zP (zP (zP (zP (zP (zP (zP (zP F8 F9) E_j) FO) EX) EY) EP) ET) FM) FA) FD) E_ia) FL) FH) FF) Fl') Fm0) Fa0) Fd0) Fm1) Fa1) Fd1))
      rw [k1, k5] at HW1
      refine wP (caps := []) (vs := [.agg #[.slice _ _ _, .slice _ _ _, .slice _ _ _, .slice _ _ _], .int .i64 _]) rfl rfl rfl (HW1) ?_
      rintro _ hw1 EW1 ⟨_, rfl, X1, xc1, ev1, XR1⟩
      rw [lrl] at ev1
      subst ev1
      refine qA (qB (v := .tuple #[.slice _ _ _, .int .i64 _]) rfl) ?_
      refine qA (qK (v := .slice _ _ _) rfl) ?_
      refine qA (qK (v := .int .i64 _) rfl) ?_
      refine qA (qE (v := .slice _ _ _) rfl) ?_
      refine qA (qE (v := .int .i64 _) rfl) ?_
      refine qF ?_
      refine qC rfl ?_
      refine qX 3 (vs := [.slice _ _ _, .slice _ _ _, .slice _ _ _, .slice _ _ _]) rfl rfl rfl rfl rfl ?_
      have HW2 := Weather_ok t Sm 2 A0 A1 A5 A7 c0 c1 c5 c7 hw1 (RS.ext (zP (zP (zP (zP (zP (zP (zP (zP (zP (zP (zP (zP (zP (zP (zP (zP (zP (zP (zP (zP (zP (zP F8 F9) E_j) FO) EX) EY) EP) ET) FM) FA) FD) E_ia) FL) FH) FF) Fl') Fm0) Fa0) Fd0) Fm1) Fa1) Fd1) EW1))
      rw [k2, k6] at HW2
      refine wP (caps := []) (vs := [.agg #[.slice _ _ _, .slice _ _ _, .slice _ _ _, .slice _ _ _], .int .i64 _]) rfl rfl rfl (HW2) ?_
      rintro _ hw2 EW2 ⟨_, rfl, X2, xc2, ev2, XR2⟩
      rw [hrl] at ev2
      subst ev2
      refine qA (qB (v := .tuple #[.slice _ _ _, .int .i64 _]) rfl) ?_
      refine qA (qK (v := .slice _ _ _) rfl) ?_
      refine qA (qK (v := .int .i64 _) rfl) ?_
      refine qA (qE (v := .slice _ _ _) rfl) ?_
      refine qA (qE (v := .int .i64 _) rfl) ?_
      refine qF ?_
      refine qC rfl ?_
      refine qX 3 (vs := [.slice _ _ _, .slice _ _ _, .slice _ _ _, .slice _ _ _]) rfl rfl rfl rfl rfl ?_
      have HF1 := First_ok t Sm A0 A1 A5 A7 c0 c1 c5 c7 hw2 (RS.ext (zP (zP (zP (zP (zP (zP (zP (zP (zP (zP (zP (zP (zP (zP (zP (zP (zP (zP (zP (zP (zP (zP (zP F8 F9) E_j) FO) EX) EY) EP) ET) FM) FA) FD) E_ia) FL) FH) FF) Fl') Fm0) Fa0) Fd0) Fm1) Fa1) Fd1) EW1) EW2))
      rw [k3, k7] at HF1
      refine wP (caps := []) (vs := [.agg #[.slice _ _ _, .slice _ _ _, .slice _ _ _, .slice _ _ _]]) rfl rfl rfl (HF1) ?_
      rintro _ hf1 EF1 ⟨_, rfl, X3, xc3, ev3, XR3⟩
      rw [List.length_map, List.length_range] at ev3
      subst ev3
      refine qA (qB (v := .tuple #[.slice _ _ _, .int .i64 _]) rfl) ?_
      refine qA (qK (v := .slice _ _ _) rfl) ?_
      refine qA (qK (v := .int .i64 _) rfl) ?_
      refine qA (qE (v := .slice _ _ _) rfl) ?_
      refine qA (qE (v := .int .i64 _) rfl) ?_
      refine qF ?_
      refine qC rfl ?_
      refine qX 3 (vs := [.slice _ _ _, .slice _ _ _, .slice _ _ _, .slice _ _ _]) rfl rfl rfl rfl rfl ?_
      refine qA (qB (v := .int .i64 _) rfl) ?_
      have HS1 := Sound_ok t Sm (wk : Int) A0 A1 A5 A7 c0 c1 c5 c7 hf1 (RS.ext (zP (zP (zP (zP (zP (zP (zP (zP (zP (zP (zP (zP (zP (zP (zP (zP (zP (zP (zP (zP (zP (zP (zP (zP F8 F9) E_j) FO) EX) EY) EP) ET) FM) FA) FD) E_ia) FL) FH) FF) Fl') Fm0) Fa0) Fd0) Fm1) Fa1) Fd1) EW1) EW2) EF1))
      rw [k4, k8] at HS1
      refine wP (caps := []) (vs := [.agg #[.slice _ _ _, .slice _ _ _, .slice _ _ _, .slice _ _ _], .int .i64 _]) rfl rfl rfl (HS1) ?_
      rintro _ hs1 ES1 rfl
      refine qA (qB (v := .tuple #[.agg #[.int .i64 _, .int .i64 _], .int .i64 _]) rfl) ?_
      refine qA (qK (v := .agg #[.int .i64 _, .int .i64 _]) rfl) ?_
      refine qA (qK (v := .int .i64 _) rfl) ?_
      refine wO (cs := [_, _]) rfl rfl fun b50_1 hb50_1 => ?_
      refine qH [_, _, _, _, _, _, _, _, _, _, _, _, _, _, _, _, _, _, _, _, _, _, _] rfl ?_
      refine qJ 22 (v := .agg #[.int .i64 _, .int .i64 _]) (vs := [_, _]) (c' := [_, _]) rfl rfl rfl rfl rfl rfl rfl rfl rfl ?_
      refine qH [_, _, _, _, _, _, _, _, _, _, _, _, _, _, _, _, _, _, _, _, _, _, _] rfl ?_
      refine qA (qE (v := .int .i64 _) rfl) ?_
      refine qF ?_
      refine qF ?_
      refine qC rfl ?_
      refine qA (qB (v := .bool _) rfl) ?_
      refine qA (qK (v := .bool _) rfl) ?_
      have hQe : (!Q.isEmpty) = true := by cases Q with | nil => exact absurd rfl hQ | cons a l => rfl
      refine zI rfl ((by show (!(!Q.isEmpty)) = false; rw [hQe]; rfl)) ?_
      have hJJ : ((t.joints.length : Int) != (t.joints.length : Int)) = false := by simp
      refine qT ?_
      refine qF ?_
      refine qF ?_
      refine qC rfl ?_
      refine qA (qB (v := .int .i64 _) rfl) ?_
      refine qA (qK (v := .bool _) rfl) ?_
      refine qA (qB (v := .bool _) rfl) ?_
      refine qQ rfl rfl ?_
      refine qA (qB (v := .int .i64 _) rfl) ?_
      refine qQ rfl rfl ?_
      refine qA (qK (v := .bool _) rfl) ?_
      refine qA (wY rfl rfl (v := .bool _) rfl) ?_
      refine qA (qB (v := .bool _) rfl) ?_
      refine qQ rfl rfl ?_
      refine qA (qB (v := .int .i64 _) rfl) ?_
      refine qQ rfl rfl ?_
      refine qA (qK (v := .bool _) rfl) ?_
      refine qA (wY rfl rfl (v := .bool _) rfl) ?_
      refine qA (qB (v := .bool _) rfl) ?_
      refine qQ rfl rfl ?_
      refine qA (qB (v := .int .i64 _) rfl) ?_
      refine qQ rfl rfl ?_
      refine qA (qK (v := .bool _) rfl) ?_
      refine qA (wY rfl rfl (v := .bool _) rfl) ?_
      refine qA (qB (v := .bool _) rfl) ?_
      refine qQ rfl rfl ?_
      refine qA (qB (v := .slice _ _ _) rfl) ?_
      refine qQ rfl rfl ?_
      refine qA (wV rfl rfl) ?_
      refine qQ rfl rfl ?_
      refine qA (qG rfl rfl rfl rfl 2 rfl) ?_
      refine qQ rfl rfl ?_
      refine qI 3 (v := .slice _ _ _) rfl rfl rfl rfl ?_
      refine qQ rfl rfl ?_
      refine qA (wV rfl rfl) ?_
      refine qQ rfl rfl ?_
      refine qA (qK (v := .bool _) rfl) ?_
      refine qA (wY rfl rfl (v := .bool _) rfl) ?_
      refine qA (qB (v := .bool _) rfl) ?_
      refine qQ rfl hJJ ?_
      refine qX 22 (vs := [.int .i64 _, .int .i64 _]) rfl rfl rfl rfl rfl ?_
      refine qQ rfl hJJ ?_
      refine qX 19 (vs := [.int .i64 _, .int .i64 _]) rfl rfl rfl rfl rfl ?_
      refine qQ rfl hJJ ?_
      refine qA (pv_neA rfl rfl (by kernel_rfl) (rgSelfL (soundT' t (wk : Int) Q))) ?_
      refine qA (wY rfl hJJ (v := .bool _) rfl) ?_
      refine qA (qB (v := .bool _) rfl) ?_
      refine qQ rfl rfl ?_
      refine qA (qB (v := .slice _ _ _) rfl) ?_
      refine qQ rfl rfl ?_
      refine qA (qB (v := .slice _ _ _) rfl) ?_
      refine qQ rfl rfl ?_
      have HQ1 := sameRanges_ok (lowR t.heats.length (lowS Q)) (lowR t.heats.length (lowS Q)) X1 (some ⟨q1, 0, none⟩) xc1 t.heats.length hs1 (XR1.ext (zP (zP EW2 EF1) ES1)) (RLo.ext (zP (zP (zP EW1 EW2) EF1) ES1)) (by rw [lrl]; omega)
      rw [lrl, decide_eq_true (rfl : lowR t.heats.length (lowS Q) = lowR t.heats.length (lowS Q))] at HQ1
      refine wP (caps := []) (vs := [.slice _ _ _, .slice _ _ _]) rfl rfl rfl (HQ1) ?_
      rintro _ hr1 ER1 rfl
      refine qQ rfl rfl ?_
      refine qA (qK (v := .bool _) rfl) ?_
      refine qA (wY rfl rfl (v := .bool _) rfl) ?_
      refine qA (qB (v := .bool _) rfl) ?_
      refine qQ rfl rfl ?_
      refine qA (qB (v := .slice _ _ _) rfl) ?_
      refine qQ rfl rfl ?_
      refine qA (qB (v := .slice _ _ _) rfl) ?_
      refine qQ rfl rfl ?_
      have HQ2 := sameRanges_ok (lowR t.heats.length (highS Q)) (lowR t.heats.length (highS Q)) X2 (some ⟨q2, 0, none⟩) xc2 t.heats.length hr1 (XR2.ext (zP (zP EF1 ES1) ER1)) (RHi.ext (zP (zP (zP (zP EW1 EW2) EF1) ES1) ER1)) (by rw [hrl]; omega)
      rw [hrl, decide_eq_true (rfl : lowR t.heats.length (highS Q) = lowR t.heats.length (highS Q))] at HQ2
      refine wP (caps := []) (vs := [.slice _ _ _, .slice _ _ _]) rfl rfl rfl (HQ2) ?_
      rintro _ hr2 ER2 rfl
      refine qQ rfl rfl ?_
      refine qA (qK (v := .bool _) rfl) ?_
      refine qA (wY rfl rfl (v := .bool _) rfl) ?_
      refine zI rfl (rfl) ?_
      refine goes_more ?_
      refine qP [_, _, _, _, _, _, _, _, _, _, _, _, _, _, _, _, _, _, _, _, _, _, _, _] rfl ?_
      refine qT ?_
      refine qF ?_
      refine qF ?_
      refine qC rfl ?_
      refine qA (qE (v := .int .i64 _) rfl) ?_
      refine qN ?_
      refine zN [2, 52, 53, 54, 55, 56, 57, 58, 59, 60, 61, 62, 63, 603, 604, 605, 606, 607, 608, 609, 610, 611, 612, 613, 614, 615, 616, 617, 618, 619, 620, 621, 622, 623, 624, 625, 626, 627, 628, 629, 630, 631, 632, 633, 634, 635, 636, 637, 638, 639, 640, 641, 642, 643, 644, 645, 646, 647, 648, 649, 650, 651, 652, 653, 654, 655, 656, 657, 658, 659, 660, 661, 662, 663, 664, 665, 666, 667, 668, 669, 670, 671, 672, 673, 674, 675, 676, 677, 678, 679, 680, 681, 682, 683, 684, 685, 686, 687, 688, 689, 690, 691, 692, 693, 694, 695, 696, 697, 698, 699, 700, 701, 702, 703, 704, 705, 706, 707, 708, 709, 710, 711, 712, 713, 714, 715, 716, 717, 718, 719, 720, 721, 722, 723, 724, 725, 726, 727] 24 (α := Nat) (fun jf => [(52, .int .i64 jf)]) (fun jf => _) (fun jf h_jf => jf ≤ t.joints.length) (fun jf => t.joints.length - jf) (0) ⟨rfl, trivial⟩ (rfl) (Nat.zero_le _) ?_
      rintro jf T24 h_jf E_jf J_jf
      refine qP [_, _, _, _, _, _, _, _, _, _, _, _, _, _, _, _, _, _, _, _, _, _, _, _] rfl ?_
      refine qF ?_
      refine qF ?_
      refine qC rfl ?_
      refine qA (qB (v := .int .i64 _) rfl) ?_
      refine qA (qB (v := .slice _ _ _) rfl) ?_
      refine qA (wV rfl rfl) ?_
      refine qA (qK (v := .bool _) rfl) ?_
      refine wA rfl (fun hjf => ?_) (fun hjf => ?_)
      ·skip
       have hjt : jf < t.joints.length := ltI hjf
       obtain ⟨v1, v2, v3, v4, v5, v6⟩ := joint_some CT jT hne hjt hwk
       rw [← KQ] at v3 v4 v5 v6
       obtain ⟨Am, hcm, RBm⟩ : ∃ Am, Cells gM mt (0 + jf * 1) (fnC (.slice Am (t.heats.length + 1) (t.heats.length + 1))) ∧ Row gd1 1 booC Am (metB t jf Q) := by
        rcases (show jf = 0 ∨ jf = 1 by omega) with rfl | rfl
        ·exact ⟨_, cM0, Rm0⟩
        ·exact ⟨_, cM1, Rm1⟩
       obtain ⟨Aa, hca, RBa⟩ : ∃ Am, Cells gA cs (0 + jf * 1) (fnC (.slice Am 3 3)) ∧ Row gd1 1 booC Am (caB t jf Q) := by
        rcases (show jf = 0 ∨ jf = 1 by omega) with rfl | rfl
        ·exact ⟨_, cA0, Ra0⟩
        ·exact ⟨_, cA1, Ra1⟩
       obtain ⟨Ad, hcd, RBd⟩ : ∃ Am, Cells gD cd (0 + jf * 1) (fnC (.slice Am 3 3)) ∧ Row gd1 1 booC Am (cdB t jf Q) := by
        rcases (show jf = 0 ∨ jf = 1 by omega) with rfl | rfl
        ·exact ⟨_, cD0, Rd0⟩
        ·exact ⟨_, cD1, Rd1⟩
       refine qT ?_
       refine qF ?_
       refine qN ?_
       refine qF ?_
       refine qC rfl ?_
       refine qA (qE (v := .slice _ _ _) rfl) ?_
       refine qF ?_
       refine qC rfl ?_
       refine qA (qE (v := .bool _) rfl) ?_
       refine qA (qE (v := .bool _) rfl) ?_
       refine qF ?_
       refine qF ?_
       refine qC rfl ?_
       refine qA (qE (v := .int .i64 _) rfl) ?_
       refine qN ?_
       refine xp_loopL [53, 54, 55, 56, 609, 610, 611, 612, 613, 614, 615, 616, 617, 618, 619, 620, 621, 622, 623, 624, 625, 626, 627, 628, 629, 630, 631, 632, 633, 634, 635, 636, 637, 638, 639, 640] 24 (α := Nat × Acc) (fun ⟨wv, a⟩ => [(56, .int .i64 wv), (53, .slice a.A a.n a.c), (54, .bool (befB t jf Q (wk : Int) wv)), (55, .bool (aftB t jf Q (wk : Int) wv))]) (fun ⟨wv, a⟩ L => L.set 23 (a.p)) (fun ⟨wv, a⟩ h_wv => wv ≤ t.heats.length + 1 ∧ AccR 3 1 ((dueL t jf Q wv).flatMap intC) a) (fun ⟨wv, a⟩ => t.heats.length + 1 - wv) ((0, acc0)) ⟨rfl, rfl, rfl, rfl, trivial⟩ (rfl) (⟨Nat.zero_le _, accR0⟩) ?_
       rintro ⟨wv, a⟩ T25 h_wv E_wv J_wv
       refine qP [_, _, _, _, _, _, _, _, _, _, _, _, _, _, _, _, _, _, _, _, _, _, _, _] rfl ?_
       obtain ⟨K1, KA⟩ := J_wv
       refine qF ?_
       refine qF ?_
       refine qC rfl ?_
       refine qA (qB (v := .int .i64 _) rfl) ?_
       refine qA (qB (v := .slice _ _ _) rfl) ?_
       refine qA (qB (v := .int .i64 _) rfl) ?_
       refine qA (qM rfl rfl rfl rfl (by omega) (by omega)) ?_
       refine qV (v := .slice _ _ _) rfl rfl ((hcm.ext (zP (zP (zP (zP (zP (zP (zP (zP (zP (zP (zP (zP (zP (zP (zP (zP (zP (zP (zP (zP FA FD) E_ia) FL) FH) FF) Fl') Fm0) Fa0) Fd0) Fm1) Fa1) Fd1) EW1) EW2) EF1) ES1) ER1) ER2) E_jf) E_wv)) 0 _ rfl) ?_
       refine qA (wV rfl rfl) ?_
       refine qA (qK (v := .bool _) rfl) ?_
       refine wA rfl (fun hwv => ?_) (fun hwv => ?_)
       ·skip
        have hwt : wv < t.heats.length + 1 := ltI hwv
        have hdl := dueL_len t jf Q wv
        obtain ⟨gz, oz, hz, cz⟩ := RBm.at (by omega) (i := wv) (by rw [metB_len]; exact hwt)
        have hze : (metB t jf Q)[wv]'(by rw [metB_len]; exact hwt) = metF t jf Q wv := by unfold metB; rw [List.getElem_map, List.getElem_range]
        rw [hze] at cz
        subst hz
        refine qT ?_
        refine qF ?_
        refine qN ?_
        refine qF ?_
        refine qC rfl ?_
        refine qA (qB (v := .slice _ _ _) rfl) ?_
        refine qA (qB (v := .int .i64 _) rfl) ?_
        refine qA (qM rfl rfl rfl rfl (by omega) (by omega)) ?_
        refine qV (v := .slice _ _ _) rfl rfl ((hcm.ext (zP (zP (zP (zP (zP (zP (zP (zP (zP (zP (zP (zP (zP (zP (zP (zP (zP (zP (zP (zP FA FD) E_ia) FL) FH) FF) Fl') Fm0) Fa0) Fd0) Fm1) Fa1) Fd1) EW1) EW2) EF1) ES1) ER1) ER2) E_jf) E_wv)) 0 _ rfl) ?_
        refine qA (qB (v := .int .i64 _) rfl) ?_
        refine qA (qM rfl rfl rfl rfl (by omega) (by omega)) ?_
        refine qV (v := .bool _) rfl rfl ((cz.ext (zP (zP (zP (zP (zP (zP (zP EW1 EW2) EF1) ES1) ER1) ER2) E_jf) E_wv)) 0 _ rfl) ?_
        refine wA rfl (fun hm => ?_) (fun hm => ?_)
        ·skip
         have hm : metF t jf Q wv = true := hm
         refine qF ?_
         refine qC rfl ?_
         refine qA (qB (v := .slice _ _ _) rfl) ?_
         refine qA (qB (v := .int .i64 _) rfl) ?_
         refine wG (zc := [_]) (vs := [(0, .int .i64 _)]) (cs := [_]) rfl rfl rfl rfl rfl rfl rfl fun b627 hb627 => ?_
         refine qH [_, _, _, _, _, _, _, _, _, _, _, _, _, _, _, _, _, _, _, _, _, _, _, _, _] rfl ?_
         refine zK 23 KA rfl rfl rfl (fun V => rdP V (i := 24) rfl) rfl rfl rfl rfl rfl rfl rfl rfl rfl (by omega) rfl (by rw [wS (m := 1) (fun _ _ => rfl)]; simp; omega) fun a2 h26a E26a ha2 => ?_
         refine qH [_, _, _, _, _, _, _, _, _, _, _, _, _, _, _, _, _, _, _, _, _, _, _, _, _] rfl ?_
         have hJ2 : AccR 3 1 ((dueL t jf Q (wv + 1)).flatMap intC) a2 := by rw [dueL_succ, if_pos hm, List.flatMap_append]; exact ha2
         rcases Bool.eq_false_or_eq_true (befB t jf Q (wk : Int) wv) with e1 | e1
         ·rcases Bool.eq_false_or_eq_true (aftB t jf Q (wk : Int) wv) with e2 | e2
          ·skip
           refine qA (qE (v := .slice _ _ _) rfl) ?_
           refine qC rfl ?_
           refine qA (qB (v := .bool _) rfl) ?_
           refine qA (qB (v := .bool _) rfl) ?_
           refine wQ rfl e1 ?_
           refine wQ rfl e1 ?_
           refine wQ rfl e1 ?_
           refine qA (wX rfl e1 (v := .bool _) rfl) ?_
           refine qA (qB (v := .bool _) rfl) ?_
           refine qA (qB (v := .bool _) rfl) ?_
           refine wQ rfl e2 ?_
           refine wQ rfl e2 ?_
           refine wQ rfl e2 ?_
           refine qA (wX rfl e2 (v := .bool _) rfl) ?_
           refine qA (qE (v := .bool _) rfl) ?_
           refine qA (qE (v := .bool _) rfl) ?_
           refine qC rfl ?_
           refine qA (qB (v := .int .i64 _) rfl) ?_
           refine qA (qO rfl (by omega)) ?_
           refine qA (qE (v := .int .i64 _) rfl) ?_
           refine ⟨(wv + 1, a2), ⟨rfl, rfl, (by rw [befB_succ, e1]; rfl), (by rw [aftB_succ, e2]; rfl), trivial⟩, rfl, rfl, (zP E_wv E26a), fun h3 E3 => ⟨hwt, hJ2⟩, by first | omega | (dsimp only; omega), ?_⟩
           repeat (first | exact qU _ _ _ | refine wB (by decide) ?_ | refine qS rfl ?_ | refine wZ (by decide +kernel) ?_)
          ·skip
           refine qA (qE (v := .slice _ _ _) rfl) ?_
           refine qC rfl ?_
           refine qA (qB (v := .bool _) rfl) ?_
           refine qA (qB (v := .bool _) rfl) ?_
           refine wQ rfl e1 ?_
           refine wQ rfl e1 ?_
           refine wQ rfl e1 ?_
           refine qA (wX rfl e1 (v := .bool _) rfl) ?_
           refine qA (qB (v := .bool _) rfl) ?_
           refine qA (qB (v := .bool _) rfl) ?_
           refine qQ rfl e2 ?_
           refine qA (qB (v := .int .i64 _) rfl) ?_
           refine qQ rfl e2 ?_
           refine qA (qB (v := .int .i64 _) rfl) ?_
           refine qQ rfl e2 ?_
           refine qA (qK (v := .bool _) rfl) ?_
           refine qA (wY rfl e2 (v := .bool _) rfl) ?_
           refine qA (qE (v := .bool _) rfl) ?_
           refine qA (qE (v := .bool _) rfl) ?_
           refine qC rfl ?_
           refine qA (qB (v := .int .i64 _) rfl) ?_
           refine qA (qO rfl (by omega)) ?_
           refine qA (qE (v := .int .i64 _) rfl) ?_
           refine ⟨(wv + 1, a2), ⟨rfl, rfl, (by rw [befB_succ, e1]; rfl), (by rw [aftB_succ, e2, hm]; rfl), trivial⟩, rfl, rfl, (zP E_wv E26a), fun h3 E3 => ⟨hwt, hJ2⟩, by first | omega | (dsimp only; omega), ?_⟩
           repeat (first | exact qU _ _ _ | refine wB (by decide) ?_ | refine qS rfl ?_ | refine wZ (by decide +kernel) ?_)
         ·rcases Bool.eq_false_or_eq_true (aftB t jf Q (wk : Int) wv) with e2 | e2
          ·skip
           refine qA (qE (v := .slice _ _ _) rfl) ?_
           refine qC rfl ?_
           refine qA (qB (v := .bool _) rfl) ?_
           refine qA (qB (v := .bool _) rfl) ?_
           refine qQ rfl e1 ?_
           refine qA (qB (v := .int .i64 _) rfl) ?_
           refine qQ rfl e1 ?_
           refine qA (qB (v := .int .i64 _) rfl) ?_
           refine qQ rfl e1 ?_
           refine qA (qK (v := .bool _) rfl) ?_
           refine qA (wY rfl e1 (v := .bool _) rfl) ?_
           refine qA (qB (v := .bool _) rfl) ?_
           refine qA (qB (v := .bool _) rfl) ?_
           refine wQ rfl e2 ?_
           refine wQ rfl e2 ?_
           refine wQ rfl e2 ?_
           refine qA (wX rfl e2 (v := .bool _) rfl) ?_
           refine qA (qE (v := .bool _) rfl) ?_
           refine qA (qE (v := .bool _) rfl) ?_
           refine qC rfl ?_
           refine qA (qB (v := .int .i64 _) rfl) ?_
           refine qA (qO rfl (by omega)) ?_
           refine qA (qE (v := .int .i64 _) rfl) ?_
           refine ⟨(wv + 1, a2), ⟨rfl, rfl, (by rw [befB_succ, e1, hm]; rfl), (by rw [aftB_succ, e2]; rfl), trivial⟩, rfl, rfl, (zP E_wv E26a), fun h3 E3 => ⟨hwt, hJ2⟩, by first | omega | (dsimp only; omega), ?_⟩
           repeat (first | exact qU _ _ _ | refine wB (by decide) ?_ | refine qS rfl ?_ | refine wZ (by decide +kernel) ?_)
          ·skip
           refine qA (qE (v := .slice _ _ _) rfl) ?_
           refine qC rfl ?_
           refine qA (qB (v := .bool _) rfl) ?_
           refine qA (qB (v := .bool _) rfl) ?_
           refine qQ rfl e1 ?_
           refine qA (qB (v := .int .i64 _) rfl) ?_
           refine qQ rfl e1 ?_
           refine qA (qB (v := .int .i64 _) rfl) ?_
           refine qQ rfl e1 ?_
           refine qA (qK (v := .bool _) rfl) ?_
           refine qA (wY rfl e1 (v := .bool _) rfl) ?_
           refine qA (qB (v := .bool _) rfl) ?_
           refine qA (qB (v := .bool _) rfl) ?_
           refine qQ rfl e2 ?_
           refine qA (qB (v := .int .i64 _) rfl) ?_
           refine qQ rfl e2 ?_
           refine qA (qB (v := .int .i64 _) rfl) ?_
           refine qQ rfl e2 ?_
           refine qA (qK (v := .bool _) rfl) ?_
           refine qA (wY rfl e2 (v := .bool _) rfl) ?_
           refine qA (qE (v := .bool _) rfl) ?_
           refine qA (qE (v := .bool _) rfl) ?_
           refine qC rfl ?_
           refine qA (qB (v := .int .i64 _) rfl) ?_
           refine qA (qO rfl (by omega)) ?_
           refine qA (qE (v := .int .i64 _) rfl) ?_
           refine ⟨(wv + 1, a2), ⟨rfl, rfl, (by rw [befB_succ, e1, hm]; rfl), (by rw [aftB_succ, e2, hm]; rfl), trivial⟩, rfl, rfl, (zP E_wv E26a), fun h3 E3 => ⟨hwt, hJ2⟩, by first | omega | (dsimp only; omega), ?_⟩
           repeat (first | exact qU _ _ _ | refine wB (by decide) ?_ | refine qS rfl ?_ | refine wZ (by decide +kernel) ?_)
        ·skip
         have hm : metF t jf Q wv = false := hm
         refine qT ?_
         refine qC rfl ?_
         refine qA (qB (v := .int .i64 _) rfl) ?_
         refine qA (qO rfl (by omega)) ?_
         refine qA (qE (v := .int .i64 _) rfl) ?_
         refine ⟨(wv + 1, a), ⟨rfl, rfl, (by rw [befB_succ, hm, Bool.false_and, Bool.or_false]; rfl), (by rw [aftB_succ, hm, Bool.false_and, Bool.or_false]; rfl), trivial⟩, rfl, rfl, E_wv, fun h3 E3 => ⟨hwt, by rw [dueL_succ, if_neg (by rw [hm]; decide)]; exact KA⟩, by first | omega | (dsimp only; omega), ?_⟩
         repeat (first | exact qU _ _ _ | refine wB (by decide) ?_ | refine qS rfl ?_ | refine wZ (by decide +kernel) ?_)
       ·skip
        have hwe : wv = t.heats.length + 1 := by have := geI hwv; omega
        subst hwe
        have hdl := dueL_len t jf Q (t.heats.length + 1)
        obtain ⟨pU, AUu, nU, cUu⟩ := a
        obtain rfl : nU = (dueL t jf Q (t.heats.length + 1)).length := by have := AccR.len KA; rw [wS (m := 1) (fun _ _ => rfl)] at this; simp at this; omega
        dsimp only
        refine goes_pubO 23 rfl ?_
        intro gU FU PU
        refine qP [_, _, _, _, _, _, _, _, _, _, _, _, _, _, _, _, _, _, _, _, _, _, _, _] rfl ?_
        have RDu : Row gU 1 intC AUu (dueL t jf Q (t.heats.length + 1)) := ⟨fun _ _ => rfl, AccR.rd KA PU⟩
        obtain ⟨gx3, ox3, hx3, cx3⟩ := XR3.at (by omega) (i := jf) (by rw [List.length_map, List.length_range]; exact hjt)
        simp only [List.getElem_map, List.getElem_range] at cx3
        subst hx3
        obtain ⟨_, _, wf, cF⟩ := RFi.at (by omega) (i := jf) (by simp [fiB]; omega)
        cases wf
        obtain ⟨_, _, wl', cL⟩ := RLa.at (by omega) (i := jf) (by simp [laB]; omega)
        cases wl'
        have hfe : (fiB t Q)[jf]'(by simp [fiB]; omega) = fiF t Q jf := by unfold fiB; rw [List.getElem_map, List.getElem_range]
        have hle : (laB t Q)[jf]'(by simp [laB]; omega) = laF t Q jf := by unfold laB; rw [List.getElem_map, List.getElem_range]
        rw [hfe] at cF
        rw [hle] at cL
        have ver : ∀ a b : Bool, ((verdictM a b) != (if b = false then 1 else if a = false then 2 else 3)) = false := by decide
        have hv1 : (firstM t jf != (if laF t Q jf = false then 1 else if fiF t Q jf = false then 2 else 3)) = false := by rw [v6]; exact ver _ _
        have hv2 : (failedV t (jf : Int) (wk : Int) != (if aftB t jf Q (wk : Int) (t.heats.length + 1) = false then 1 else if befB t jf Q (wk : Int) (t.heats.length + 1) = false then 2 else 3)) = false := by rw [v4]; exact ver _ _
        refine wU ?_
        refine qF ?_
        refine qC rfl ?_
        refine qX 3 (vs := [.slice _ _ _, .slice _ _ _, .slice _ _ _, .slice _ _ _]) rfl rfl rfl rfl rfl ?_
        refine qA (qB (v := .int .i64 _) rfl) ?_
        have HE1 := Fails_ok t Sm (jf : Int) A0 A1 A5 A7 c0 c1 c5 c7 gU (RS.ext (zP (zP (zP (zP (zP (zP (zP (zP (zP (zP (zP (zP (zP (zP (zP (zP (zP (zP (zP (zP (zP (zP (zP (zP (zP (zP (zP (zP (zP (zP F8 F9) E_j) FO) EX) EY) EP) ET) FM) FA) FD) E_ia) FL) FH) FF) Fl') Fm0) Fa0) Fd0) Fm1) Fa1) Fd1) EW1) EW2) EF1) ES1) ER1) ER2) E_jf) E_wv) FU))
        rw [v1, v3] at HE1
        refine wP (caps := []) (vs := [.agg #[.slice _ _ _, .slice _ _ _, .slice _ _ _, .slice _ _ _], .int .i64 _]) rfl rfl rfl (HE1) ?_
        rintro _ he1 EE1 ⟨_, rfl, Y1, yc1, rfl, YR1⟩
        refine qA (qB (v := .tuple #[.slice _ _ _, .int .i64 _]) rfl) ?_
        refine qA (qK (v := .slice _ _ _) rfl) ?_
        refine qA (qK (v := .int .i64 _) rfl) ?_
        refine qA (qE (v := .slice _ _ _) rfl) ?_
        refine qA (qE (v := .int .i64 _) rfl) ?_
        refine qF ?_
        refine qC rfl ?_
        refine qX 3 (vs := [.slice _ _ _, .slice _ _ _, .slice _ _ _, .slice _ _ _]) rfl rfl rfl rfl rfl ?_
        refine qA (qB (v := .int .i64 _) rfl) ?_
        refine qA (qB (v := .int .i64 _) rfl) ?_
        have HE2 := Failed_ok t Sm (jf : Int) (wk : Int) A0 A1 A5 A7 c0 c1 c5 c7 he1 (RS.ext (zP (zP (zP (zP (zP (zP (zP (zP (zP (zP (zP (zP (zP (zP (zP (zP (zP (zP (zP (zP (zP (zP (zP (zP (zP (zP (zP (zP (zP (zP (zP F8 F9) E_j) FO) EX) EY) EP) ET) FM) FA) FD) E_ia) FL) FH) FF) Fl') Fm0) Fa0) Fd0) Fm1) Fa1) Fd1) EW1) EW2) EF1) ES1) ER1) ER2) E_jf) E_wv) FU) EE1))
        rw [v2] at HE2
        refine wP (caps := []) (vs := [.agg #[.slice _ _ _, .slice _ _ _, .slice _ _ _, .slice _ _ _], .int .i64 _, .int .i64 _]) rfl rfl rfl (HE2) ?_
        rintro _ he2 EE2 rfl
        refine qA (qB (v := .tuple #[.int .i64 _, .int .i64 _]) rfl) ?_
        refine qA (qK (v := .int .i64 _) rfl) ?_
        refine qA (qK (v := .int .i64 _) rfl) ?_
        refine qA (qE (v := .int .i64 _) rfl) ?_
        refine qA (qE (v := .int .i64 _) rfl) ?_
        refine qF ?_
        refine qC rfl ?_
        refine qX 3 (vs := [.slice _ _ _, .slice _ _ _, .slice _ _ _, .slice _ _ _]) rfl rfl rfl rfl rfl ?_
        refine qA (qB (v := .int .i64 _) rfl) ?_
        have HE3 := Causes_ok t Sm (jf : Int) A0 A1 A5 A7 c0 c1 c5 c7 he2 (RS.ext (zP (zP (zP (zP (zP (zP (zP (zP (zP (zP (zP (zP (zP (zP (zP (zP (zP (zP (zP (zP (zP (zP (zP (zP (zP (zP (zP (zP (zP (zP (zP (zP F8 F9) E_j) FO) EX) EY) EP) ET) FM) FA) FD) E_ia) FL) FH) FF) Fl') Fm0) Fa0) Fd0) Fm1) Fa1) Fd1) EW1) EW2) EF1) ES1) ER1) ER2) E_jf) E_wv) FU) EE1) EE2))
        rw [v1, v5] at HE3
        refine wP (caps := []) (vs := [.agg #[.slice _ _ _, .slice _ _ _, .slice _ _ _, .slice _ _ _], .int .i64 _]) rfl rfl rfl (HE3) ?_
        rintro _ he3 EE3 ⟨_, rfl, Y3, yc3, ey3, YR3⟩
        rw [List.length_map, List.length_range] at ey3
        subst ey3
        refine qA (qB (v := .tuple #[.slice _ _ _, .int .i64 _]) rfl) ?_
        refine qA (qK (v := .slice _ _ _) rfl) ?_
        refine qA (qK (v := .int .i64 _) rfl) ?_
        refine qA (qE (v := .slice _ _ _) rfl) ?_
        refine qA (qE (v := .int .i64 _) rfl) ?_
        refine qF ?_
        refine qF ?_
        refine zB [] rfl rfl rfl ?_
        refine qD (i := 0) rfl (by decide +kernel) (qB (v := .int .i64 _) rfl) ?_
        refine qD (i := 1) rfl (by decide +kernel) (qK (v := .bool _) rfl) ?_
        refine qD (i := 2) rfl (by decide +kernel) (qB (v := .bool _) rfl) ?_
        refine qY (i := 3) rfl (by decide +kernel) rfl rfl (qB (v := .int .i64 _) rfl) ?_
        refine qY (i := 4) rfl (by decide +kernel) rfl rfl (qK (v := .bool _) rfl) ?_
        refine qD (i := 5) rfl (by decide +kernel) (wY rfl rfl (v := .bool _) rfl) ?_
        refine qD (i := 6) rfl (by decide +kernel) (qB (v := .bool _) rfl) ?_
        refine qY (i := 7) rfl (by decide +kernel) rfl rfl (qB (v := .int .i64 _) rfl) ?_
        refine qY (i := 8) rfl (by decide +kernel) rfl rfl (qK (v := .bool _) rfl) ?_
        refine qD (i := 9) rfl (by decide +kernel) (wY rfl rfl (v := .bool _) rfl) ?_
        refine qD (i := 10) rfl (by decide +kernel) (qB (v := .bool _) rfl) ?_
        refine qY (i := 11) rfl (by decide +kernel) rfl rfl (qB (v := .slice _ _ _) rfl) ?_
        refine qY (i := 12) rfl (by decide +kernel) rfl rfl (qB (v := .int .i64 _) rfl) ?_
        refine qY (i := 13) rfl (by decide +kernel) rfl rfl (qM rfl rfl rfl rfl (by omega) (by omega)) ?_
        refine zM (i := 14) rfl (by decide +kernel) rfl rfl ?_
        refine qV (v := .int .i64 _) rfl rfl ((cx3.ext (zP (zP (zP (zP (zP (zP (zP (zP ES1 ER1) ER2) E_jf) E_wv) FU) EE1) EE2) EE3)) 0 _ rfl) ?_
        refine qY (i := 15) rfl (by decide +kernel) rfl rfl (qB (v := .slice _ _ _) rfl) ?_
        refine qY (i := 16) rfl (by decide +kernel) rfl rfl (qB (v := .int .i64 _) rfl) ?_
        refine qY (i := 17) rfl (by decide +kernel) rfl rfl (qM rfl rfl rfl rfl (by omega) (by omega)) ?_
        refine zM (i := 18) rfl (by decide +kernel) rfl rfl ?_
        refine qV (v := .bool _) rfl rfl ((cF.ext (zP (zP (zP (zP (zP (zP (zP (zP (zP (zP (zP EW1 EW2) EF1) ES1) ER1) ER2) E_jf) E_wv) FU) EE1) EE2) EE3)) 0 _ rfl) ?_
        refine qY (i := 19) rfl (by decide +kernel) rfl rfl (qB (v := .slice _ _ _) rfl) ?_
        refine qY (i := 20) rfl (by decide +kernel) rfl rfl (qB (v := .int .i64 _) rfl) ?_
        refine qY (i := 21) rfl (by decide +kernel) rfl rfl (qM rfl rfl rfl rfl (by omega) (by omega)) ?_
        refine zM (i := 22) rfl (by decide +kernel) rfl rfl ?_
        refine qV (v := .bool _) rfl rfl ((cL.ext (zP (zP (zP (zP (zP (zP (zP (zP (zP (zP (zP EW1 EW2) EF1) ES1) ER1) ER2) E_jf) E_wv) FU) EE1) EE2) EE3)) 0 _ rfl) ?_
        refine dw_effG (i := 23) rfl (by decide +kernel) rfl rfl ?_
        refine wP (caps := []) (vs := [.bool _, .bool _]) rfl rfl rfl (lawVerdict_ok (fiF t Q jf) (laF t Q jf) he3) ?_
        rintro _ hl1 EL1 rfl
        refine ⟨ext_wlm EL1 _, ?_⟩
        refine qY (i := 24) rfl (by decide +kernel) rfl rfl (qK (v := .bool _) rfl) ?_
        refine qD (i := 25) rfl (by decide +kernel) (wY rfl rfl (v := .bool _) rfl) ?_
        refine qD (i := 26) rfl (by decide +kernel) (qB (v := .bool _) rfl) ?_
        refine qY (i := 27) rfl (by decide +kernel) rfl hv1 (qB (v := .int .i64 _) rfl) ?_
        refine qY (i := 28) rfl (by decide +kernel) rfl hv1 (qB (v := .bool _) rfl) ?_
        refine qY (i := 29) rfl (by decide +kernel) rfl hv1 (qB (v := .bool _) rfl) ?_
        refine dw_lastG (i := 30) rfl (by decide +kernel) (by decide +kernel) rfl hv1 ?_
        refine wP (caps := []) (vs := [.bool _, .bool _]) rfl rfl rfl (lawVerdict_ok (befB t jf Q (wk : Int) (t.heats.length + 1)) (aftB t jf Q (wk : Int) (t.heats.length + 1)) hl1) ?_
        rintro _ hl2 EL2 rfl
        refine qY (i := 31) rfl (by decide +kernel) rfl hv1 (qK (v := .bool _) rfl) ?_
        refine qD (i := 32) rfl (by decide +kernel) (wY rfl hv1 (v := .bool _) rfl) ?_
        refine qD (i := 33) rfl (by decide +kernel) (qB (v := .bool _) rfl) ?_
        refine qY (i := 34) rfl (by decide +kernel) rfl hv2 (qB (v := .slice _ _ _) rfl) ?_
        refine qY (i := 35) rfl (by decide +kernel) rfl hv2 (wV rfl rfl) ?_
        refine qY (i := 36) rfl (by decide +kernel) rfl hv2 (qK (v := .bool _) rfl) ?_
        refine qD (i := 37) rfl (by decide +kernel) (wY rfl hv2 (v := .bool _) rfl) ?_
        refine qD (i := 38) rfl (by decide +kernel) (qB (v := .bool _) rfl) ?_
        refine qY (i := 39) rfl (by decide +kernel) rfl rfl (qB (v := .slice _ _ _) rfl) ?_
        refine qY (i := 40) rfl (by decide +kernel) rfl rfl (qB (v := .slice _ _ _) rfl) ?_
        have HE4 := sameInts_ok (dueL t jf Q (t.heats.length + 1)) (dueL t jf Q (t.heats.length + 1)) Y1 AUu yc1 cUu hl2 (YR1.ext (zP (zP (zP EE2 EE3) EL1) EL2)) (RDu.ext (zP (zP (zP (zP EE1 EE2) EE3) EL1) EL2)) (by omega)
        rw [decide_eq_true (rfl : dueL t jf Q (t.heats.length + 1) = dueL t jf Q (t.heats.length + 1))] at HE4
        refine dw_lastG (i := 41) rfl (by decide +kernel) (by decide +kernel) rfl rfl ?_
        refine wP (caps := []) (vs := [.slice _ _ _, .slice _ _ _]) rfl rfl rfl (HE4) ?_
        rintro _ he4 EE4 rfl
        refine qY (i := 42) rfl (by decide +kernel) rfl rfl (qK (v := .bool _) rfl) ?_
        refine qD (i := 43) rfl (by decide +kernel) (wY rfl rfl (v := .bool _) rfl) ?_
        refine wW rfl ?_
        refine zI rfl (rfl) ?_
        refine qT ?_
        refine qF ?_
        refine qC rfl ?_
        refine qA (qE (v := .int .i64 _) rfl) ?_
        refine qN ?_
        refine zN [2, 63, 704, 705, 706, 707, 708, 709, 710, 711, 712, 713, 714, 715, 716, 717, 718, 719, 720, 721, 722, 723, 724, 725, 726, 727] 24 (α := Nat) (fun xf => [(63, .int .i64 xf)]) (fun xf => _) (fun xf h_xf => xf ≤ 3) (fun xf => 3 - xf) (0) ⟨rfl, trivial⟩ (rfl) (Nat.zero_le _) ?_
        rintro xf T27 h_xf E_xf J_xf
        refine qP [_, _, _, _, _, _, _, _, _, _, _, _, _, _, _, _, _, _, _, _, _, _, _, _] rfl ?_
        refine qF ?_
        refine qF ?_
        refine qC rfl ?_
        refine qA (qB (v := .int .i64 _) rfl) ?_
        refine qA (qK (v := .bool _) rfl) ?_
        refine wA rfl (fun hxf => ?_) (fun hxf => ?_)
        ·skip
         have hx3 : xf < 3 := by have := of_decide_eq_true hxf; omega
         obtain ⟨gy3, oy3, hy3, cy3⟩ := YR3.at (by omega) (i := xf) (by rw [List.length_map, List.length_range]; exact hx3)
         simp only [List.getElem_map, List.getElem_range] at cy3
         subst hy3
         obtain ⟨ga3, oa3, ha3, ca3⟩ := RBa.at (by omega) (i := xf) (by simp [caB]; exact hx3)
         subst ha3
         obtain ⟨gd3, od3, hd3, cd3⟩ := RBd.at (by omega) (i := xf) (by simp [cdB]; exact hx3)
         subst hd3
         have hae : (caB t jf Q)[xf]'(by simp [caB]; exact hx3) = caF t jf Q xf := by unfold caB; rw [List.getElem_map, List.getElem_range]
         have hde : (cdB t jf Q)[xf]'(by simp [cdB]; exact hx3) = cdF t jf Q xf := by unfold cdB; rw [List.getElem_map, List.getElem_range]
         rw [hae] at ca3
         rw [hde] at cd3
         refine qT ?_
         refine qF ?_
         refine qN ?_
         refine qF ?_
         refine zB [] rfl rfl rfl ?_
         refine qD (i := 0) rfl (by decide +kernel) (qB (v := .slice _ _ _) rfl) ?_
         refine qD (i := 1) rfl (by decide +kernel) (qB (v := .int .i64 _) rfl) ?_
         refine qD (i := 2) rfl (by decide +kernel) (qM rfl rfl rfl rfl (by omega) (by omega)) ?_
         refine qL (i := 3) rfl (by decide +kernel) ?_
         refine qV (v := .int .i64 _) rfl rfl ((cy3.ext (zP (zP (zP EL1 EL2) EE4) E_xf)) 0 _ rfl) ?_
         refine qD (i := 4) rfl (by decide +kernel) (qB (v := .slice _ _ _) rfl) ?_
         refine qD (i := 5) rfl (by decide +kernel) (qB (v := .int .i64 _) rfl) ?_
         refine qD (i := 6) rfl (by decide +kernel) (qM rfl rfl rfl rfl (by omega) (by omega)) ?_
         refine qL (i := 7) rfl (by decide +kernel) ?_
         refine qV (v := .slice _ _ _) rfl rfl ((hca.ext (zP (zP (zP (zP (zP (zP (zP (zP (zP (zP (zP (zP (zP (zP (zP (zP (zP (zP (zP (zP (zP (zP (zP (zP (zP (zP (zP FD E_ia) FL) FH) FF) Fl') Fm0) Fa0) Fd0) Fm1) Fa1) Fd1) EW1) EW2) EF1) ES1) ER1) ER2) E_jf) E_wv) FU) EE1) EE2) EE3) EL1) EL2) EE4) E_xf)) 0 _ rfl) ?_
         refine qD (i := 8) rfl (by decide +kernel) (qB (v := .int .i64 _) rfl) ?_
         refine qD (i := 9) rfl (by decide +kernel) (qM rfl rfl rfl rfl (by omega) (by omega)) ?_
         refine qL (i := 10) rfl (by decide +kernel) ?_
         refine qV (v := .bool _) rfl rfl ((ca3.ext (zP (zP (zP (zP (zP (zP (zP (zP (zP (zP (zP (zP (zP (zP (zP EW1 EW2) EF1) ES1) ER1) ER2) E_jf) E_wv) FU) EE1) EE2) EE3) EL1) EL2) EE4) E_xf)) 0 _ rfl) ?_
         refine qD (i := 11) rfl (by decide +kernel) (qB (v := .slice _ _ _) rfl) ?_
         refine qD (i := 12) rfl (by decide +kernel) (qB (v := .int .i64 _) rfl) ?_
         refine qD (i := 13) rfl (by decide +kernel) (qM rfl rfl rfl rfl (by omega) (by omega)) ?_
         refine qL (i := 14) rfl (by decide +kernel) ?_
         refine qV (v := .slice _ _ _) rfl rfl ((hcd.ext (zP (zP (zP (zP (zP (zP (zP (zP (zP (zP (zP (zP (zP (zP (zP (zP (zP (zP (zP (zP (zP (zP (zP (zP (zP (zP E_ia FL) FH) FF) Fl') Fm0) Fa0) Fd0) Fm1) Fa1) Fd1) EW1) EW2) EF1) ES1) ER1) ER2) E_jf) E_wv) FU) EE1) EE2) EE3) EL1) EL2) EE4) E_xf)) 0 _ rfl) ?_
         refine qD (i := 15) rfl (by decide +kernel) (qB (v := .int .i64 _) rfl) ?_
         refine qD (i := 16) rfl (by decide +kernel) (qM rfl rfl rfl rfl (by omega) (by omega)) ?_
         refine qL (i := 17) rfl (by decide +kernel) ?_
         refine qV (v := .bool _) rfl rfl ((cd3.ext (zP (zP (zP (zP (zP (zP (zP (zP (zP (zP (zP (zP (zP (zP (zP EW1 EW2) EF1) ES1) ER1) ER2) E_jf) E_wv) FU) EE1) EE2) EE3) EL1) EL2) EE4) E_xf)) 0 _ rfl) ?_
         refine zD (i := 18) rfl (by decide +kernel) ?_
         refine wP (caps := []) (vs := [.bool _, .bool _]) rfl rfl rfl (lawVerdict_ok (caF t jf Q xf) (cdF t jf Q xf) h_xf) ?_
         rintro _ hl3 EL3 rfl
         refine ⟨ext_wlm EL3 _, ?_⟩
         refine qD (i := 19) rfl (by decide +kernel) (qK (v := .bool _) rfl) ?_
         refine wW rfl ?_
         refine zI rfl ((ver (caF t jf Q xf) (cdF t jf Q xf))) ?_
         refine qT ?_
         refine qC rfl ?_
         refine qA (qB (v := .int .i64 _) rfl) ?_
         refine qA (qO rfl (by omega)) ?_
         refine qA (qE (v := .int .i64 _) rfl) ?_
         refine ⟨xf + 1, ⟨rfl, trivial⟩, rfl, rfl, (zP E_xf EL3), fun h3 E3 => by first | trivial | omega | (refine ⟨?_, ?_⟩ <;> omega), by first | omega | (dsimp only; omega), ?_⟩
         repeat (first | exact qU _ _ _ | refine wB (by decide) ?_ | refine qS rfl ?_ | refine wZ (by decide +kernel) ?_)
        ·skip
         have hxe : xf = 3 := by have := of_decide_eq_false hxf; omega
         subst hxe
         refine wU ?_
         refine qC rfl ?_
         refine qA (qB (v := .int .i64 _) rfl) ?_
         refine qA (qO rfl (by omega)) ?_
         refine qA (qE (v := .int .i64 _) rfl) ?_
         refine ⟨jf + 1, ⟨rfl, trivial⟩, rfl, rfl, (zP (zP (zP (zP (zP (zP (zP (zP (zP E_jf E_wv) FU) EE1) EE2) EE3) EL1) EL2) EE4) E_xf), fun h3 E3 => hjt, by first | omega | (dsimp only; omega), ?_⟩
         repeat (first | exact qU _ _ _ | refine wB (by decide) ?_ | refine qS rfl ?_ | refine wZ (by decide +kernel) ?_)
      ·skip
       have hje : jf = t.joints.length := by have := geI hjf; omega
       subst hje
       refine wU ?_
       refine qF ?_
       refine qC rfl ?_
       refine wP (caps := []) (vs := []) rfl rfl rfl (warm_ok h_jf) ?_
       rintro _ hz Ez rfl
       refine qA (qE (v := .bool _) rfl) ?_
       refine wK ?_
       exact ⟨rfl, fun V => (zP (zP (zP (zP (zP (zP (zP (zP (zP (zP (zP (zP (zP (zP (zP (zP (zP (zP (zP (zP (zP (zP (zP (zP (zP (zP (zP (zP (zP (zP (zP (zP (zP (zP (zP E1 E2) G5) E_z) G7) F8) F9) E_j) FO) EX) EY) EP) ET) FM) FA) FD) E_ia) FL) FH) FF) Fl') Fm0) Fa0) Fd0) Fm1) Fa1) Fd1) EW1) EW2) EF1) ES1) ER1) ER2) E_jf) Ez) (wE V)), rfl⟩
end Go.Proofs.Ytgjcepdhclmglaa
