/- An own logic over the model, its walks and its plain laws, joined of parts W20 W21 W22 V1 HC Xa HE X2 Xd V2 V3 CD GQ HD X1 BB X3 X4. Conditions: as each theorem states. -/
import Derived.Test.YtboigjfgpppeaaaGreatDoorLa4
import Derived.Test.YtboigjfgpppeaaaGreatDoorLa2
set_option linter.all false
namespace Go.Proofs.YtboigjfgpppeaaaGreatDoor
open Go Go.HL Go.Proofs Go.Wx
variable [Lvl]
set_option maxRecDepth 100000
def marginE (s : Season) (j w : Int) : Int := if failedE s j w = 0 then (if failedV s j w = 2 then 0 else 11) else failedE s j w
def marginV (s : Season) (j w : Int) : Int := if marginE s j w = 0 then marginM s j.toNat w.toNat else 0
set_option maxHeartbeats 8000000 in
theorem Margin_ok (s : Season) (Sm : Small s) (joint week : Int) (A0 A1 A2 A3 : Option Addr) (c0 c1 c2 c3 : Nat) (h : AH) (R : SeasonR h A0 A1 A2 A3 s) :
  FnT Tryz.prog 20 #[seasonV A0 A1 A2 A3 c0 c1 c2 c3 s, .int .i64 joint, .int .i64 week] h (fun v _ => v = .tuple #[.int .i64 (marginV s joint week), .int .i64 (marginE s joint week)]) := by
 by_cases he : failedE s joint week = 0
 ·by_cases hv : failedV s joint week = 2
  ·have hm0 : marginE s joint week = 0 := by rw [marginE, if_pos he, if_pos hv]
   have hk := kV he
   have SV := yR hk.1
   have hw6 := SV.b.w6
   have hw1 := SV.b.w1
   have hdl := SV.b.dl
   have h2e := firstErr2 hk.2.1
   obtain ⟨j, rfl, hj⟩ := isJointM_zero h2e.1
   obtain ⟨w, rfl, hw⟩ := isWeekM_zero h2e.2
   have hka : kindAt s j = s.joints[j].kind := by simp [kindAt, List.getElem?_eq_getElem hj]
   have hsj := SV.b.j3
   have hsr := SV.b.rl
   have hval : marginV s j w = (marginM s j w : Int) := by rw [marginV, if_pos hm0]; simp
   refine qW Tryz.func20 rfl Tryz.ntmps20 rfl ?_
   refine qC (qA rfl ?_)
   refine zC (v:=.agg #[.slice _ _ _, .slice _ _ _, .slice _ _ _, .slice _ _ _]) (cs:=[_, _, _, _]) rfl rfl fun b3 hb3 => ?_
   refine qH [_] rfl ?_
   refine asI rfl ?_
   refine asI rfl ?_
   refine qC (qA rfl ?_)
   refine qZ 0 (vs:=[.slice _ _ _, .slice _ _ _, .slice _ _ _, .slice _ _ _]) rfl rfl rfl rfl rfl ?_
   refine mvI rfl ?_
   refine mvI rfl ?_
   refine wI (caps:=[]) (vs:=[.agg #[.slice _ _ _, .slice _ _ _, .slice _ _ _, .slice _ _ _], .int .i64 _, .int .i64 _]) rfl rfl rfl (Failed_ok s Sm _ _ A0 A1 A2 A3 c0 c1 c2 c3 h R) ?_
   rintro _ h1 E1 rfl
   refine qB (qK (v:=.tuple #[.int .i64 _, .int .i64 _]) rfl) ?_
   refine qB (wL (v:=.int .i64 _) rfl) ?_
   refine qB (wL (v:=.int .i64 _) rfl) ?_
   refine asI rfl ?_
   refine asI rfl ?_
   refine qC (qC (qA rfl ?_))
   refine mvI rfl ?_
   refine pvB rfl ?_
   refine wS rfl (by simp [he]) ?_
   refine qM ?_
   refine qC (qC (qA rfl ?_))
   refine mvI rfl ?_
   refine pvB rfl ?_
   refine wS rfl (by simp [hv]) ?_
   refine qM ?_
   refine qC (qA rfl ?_)
   refine qZ 0 (vs:=[.slice _ _ _, .slice _ _ _, .slice _ _ _, .slice _ _ _]) rfl rfl rfl rfl rfl ?_
   refine wI (caps:=[]) (vs:=[.agg #[.slice _ _ _, .slice _ _ _, .slice _ _ _, .slice _ _ _]]) rfl rfl rfl (clone_ok s A0 A1 A2 A3 c0 c1 c2 c3 h1 (R.ext E1) (by omega) (by omega) (by omega) (by omega)) ?_
   rintro _ h2 E2 ⟨B0, B1, B2, B3, d0, d1, d2, d3, rfl, R2⟩
   obtain ⟨g, off, hB2, hcj⟩ := R2.joints.at (by omega) hj
   refine qS 0 (v:=.agg #[.slice _ _ _, .slice _ _ _, .slice _ _ _, .slice _ _ _]) (vs:=[_, _, _, _]) (c':=[_, _, _, _]) rfl rfl rfl rfl rfl rfl rfl rfl rfl ?_
   refine qH [_] rfl ?_
   refine qC (qA rfl ?_)
   refine qB (qD rfl rfl rfl rfl 3 rfl) ?_
   refine qS 0 (v:=.slice _ _ _) (vs:=[_]) (c':=[_, _, _, _]) rfl rfl rfl rfl rfl rfl rfl rfl rfl ?_
   refine qH [_] rfl ?_
   refine qC (qA rfl ?_)
   refine qB (qD rfl rfl rfl rfl 2 rfl) ?_
   refine qL 0 (v:=.slice _ _ _) rfl rfl rfl rfl ?_
   refine mvI rfl ?_
   refine qB (wK rfl hB2 rfl rfl rfl (by omega) (by omega)) ?_
   refine qB (qD rfl rfl rfl rfl _ rfl) ?_
   refine wX (v:=.int .i64 _) rfl rfl (hcj 0 (.int .i64 s.joints[j].kind) rfl) ?_
   refine wI (caps:=[]) (vs:=[.int .i64 _]) rfl rfl rfl (kindOf_ok _ h2) ?_
   rintro _ h3 E3 rfl
   rcases SV.kinds _ (List.getElem_mem hj) with hki | hki
   ·skip
    rw [hki] at hka ⊢
    refine qB (wA (v:=_) rfl) ?_
    refine qC (qA rfl ?_)
    refine asI rfl ?_
    refine qC ?_
    refine qT ?_
    refine zF [11, 12, 13, 14, 15, 16, 17, 40, 41, 42, 43, 44, 45, 46, 47, 48, 49, 50, 51, 52, 53, 54, 55, 56, 57, 58, 59, 60, 61, 62, 63, 64, 65, 66, 67, 68, 69, 70, 71, 72, 73, 74, 75, 76, 77, 78, 79, 80, 81, 82, 83, 84, 85, 86] 1 (α:=Nat) (fun n => [(11, .int .i64 n)]) (fun n => _) (fun n h_n => n ≤ 30 ∧ ∀ i, i < n → tooWarm s j w i = false) (fun n => 30 - n) (0) ⟨rfl, trivial⟩ (rfl) (⟨by omega, fun i hi => absurd hi (Nat.not_lt_zero i)⟩) ?_
    rintro n T1 h_n E_n J_n
    refine qR [_] rfl ?_
    obtain ⟨K1, K2⟩ := J_n
    have E2n := (kX E3 E_n)
    refine qC (qC (qA rfl ?_))
    refine mvI rfl ?_
    refine pvB rfl ?_
    refine qP rfl (fun ht => ?_) (fun ht => ?_)
    ·skip
     have hn : n < 30 := ltI (n:=30) ht
     have SVw : SeasonV ({ s with heats := warmL s.heats s.heats.length ((n : Int) + 1), reports := [] } : Season) := by rw [← warmS_1]; exact warmS_v SV (by omega)
     have hwl := warmL_len s.heats s.heats.length ((n : Int) + 1)
     have hrl := kP s.heats 0 s.heats.length ((n : Int) + 1)
     refine qM ?_
     refine qT ?_
     refine qC ?_
     refine zL [] rfl rfl rfl ?_
     refine qE (i:=0) rfl (by decide +kernel) (qK (v:=_) rfl) ?_
     refine wD (i:=1) rfl (by decide +kernel) ?_
     refine qZ 0 (vs:=[.slice _ _ _, .slice _ _ _, .slice _ _ _, .slice _ _ _]) rfl rfl rfl rfl rfl ?_
     refine qE (i:=3) rfl (by decide +kernel) (qD rfl rfl rfl rfl 0 rfl) ?_
     refine wD (i:=4) rfl (by decide +kernel) ?_
     refine qL 0 (v:=.slice _ _ _) rfl rfl rfl rfl ?_
     refine qE (i:=5) rfl (by decide +kernel) (wP rfl rfl) ?_
     refine qE (i:=6) rfl (by decide +kernel) (qO rfl (by omega)) ?_
     refine qE (i:=7) rfl (by decide +kernel) (qK (v:=.int .i64 _) rfl) ?_
     refine qE (i:=8) rfl (by decide +kernel) (qO rfl (by omega)) ?_
     refine wZ (i:=2) rfl (by decide +kernel) ?_
     refine op_invoke rfl (by kernel_rfl) rfl rfl (waxWeather_ok (bare s) B0 B1 B2 none d0 d1 d2 0 h_n) ?_
     rintro _ h4 E4 rfl
     refine ⟨zJ E4 _, ?_⟩
     refine wU (i:=9) rfl (by decide +kernel) (by decide +kernel) ?_
     refine zM [_] [] [] rfl rfl rfl (raised_ok s.heats (by omega) (by omega) (fun r hr => by obtain ⟨a1, a2, a3, a4⟩ := SV.b.hb r hr; omega) 0 s.heats.length (Nat.zero_le _) (by omega) _ rfl ((n : Int) + 1) (by omega) B0 d0 h4 (R2.heats.ext (kX (kX E3 E_n) E4))) ?_
     rintro _ h5 _ E5 ⟨b4, cap4, junk4, rfl, ev⟩
     refine wJ [_, _] rfl ?_
     rw [← hwl] at ev
     subst ev
     refine qE (i:=10) rfl (by decide +kernel) (wA (v:=.slice _ _ _) rfl) ?_
     refine zB rfl ?_
     refine qC (qC (qA rfl ?_))
     refine mvS rfl ?_
     refine qB (wP rfl rfl) ?_
     refine mvI rfl ?_
     refine qT ?_
     refine yC [13, 14, 54, 55, 56, 57, 58, 59, 60, 61, 62, 63, 64, 65, 66, 67, 68, 69] 2 (α:=Nat) (fun k => [(54, .int .i64 k)]) (fun k L => L.set 1 (some (b4, .cells ((capN (raisedN s.heats 0 s.heats.length ((n : Int) + 1)) k).flatMap rgC ++ junk4).toArray 56 (0, 0)))) (fun k h_k => k ≤ (warmL s.heats s.heats.length ((n : Int) + 1)).length) (fun k => (warmL s.heats s.heats.length ((n : Int) + 1)).length - k) (0) ⟨rfl, trivial⟩ (by rw [capN_zero]; rfl) (Nat.zero_le _) ?_
     rintro k T2 h_k E_k J_k
     refine qR [_, _] rfl ?_
     refine qC (qA rfl ?_)
     refine pvB rfl ?_
     refine qC ?_
     refine qP rfl (fun hk2 => ?_) (fun hk2 => ?_)
     ·skip
      have hkw := ltI hk2
      have hkr : k < (raisedN s.heats 0 s.heats.length ((n : Int) + 1)).length := by omega
      have hkc : k < (capN (raisedN s.heats 0 s.heats.length ((n : Int) + 1)) k).length := by rw [capN_len]; exact hkr
      have hoff : 0 + (k : Int).toNat * 2 = k * 2 := by omega
      refine qM ?_
      refine qC ?_
      refine qT ?_
      refine qC (qA rfl ?_)
      refine mvI rfl ?_
      refine qB (zK rfl rfl rfl rfl (by omega) (by omega)) ?_
      refine op_loadW (cs:=[.int .i64 (raisedN s.heats 0 s.heats.length ((n : Int) + 1))[k].mn, .int .i64 (raisedN s.heats 0 s.heats.length ((n : Int) + 1))[k].mx]) (off:=0 + (k : Int).toNat * 2) rfl rfl rfl rfl (fun V => by rw [hoff]; exact rg_cells (i:=1) rfl V (capN_at hkr)) ?_
      refine wT (cs:=[_, _]) rfl rfl fun b14 hb14 => ?_
      refine qH [_, _, _] rfl ?_
      refine asI rfl ?_
      refine qS 2 (v:=.agg #[.int .i64 _, .int .i64 _]) (vs:=[_, _]) (c':=[_, _]) rfl rfl rfl rfl rfl rfl rfl rfl rfl ?_
      refine qH [_, _, _] rfl ?_
      refine qA rfl ?_
      refine mvS rfl ?_
      refine mvI rfl ?_
      refine qB (qD rfl rfl rfl rfl 0 rfl) ?_
      refine qL 2 (v:=.int .i64 _) rfl rfl rfl rfl ?_
      refine qB (pv_min rfl rfl) ?_
      refine qB (qD rfl rfl rfl rfl 1 rfl) ?_
      refine qL 2 (v:=.int .i64 _) rfl rfl rfl rfl ?_
      refine qB (pv_min rfl rfl) ?_
      refine qB (zD (zc:=[_, _]) (vs:=[(0, .int .i64 _), (1, .int .i64 _)]) (cs:=[_, _]) rfl rfl rfl rfl rfl rfl) ?_
      refine qB (zK rfl rfl rfl rfl (by omega) (by omega)) ?_
      refine qS 1 (v:=.agg #[.int .i64 _, .int .i64 _]) (vs:=[.int .i64 (min (raisedN s.heats 0 s.heats.length ((n : Int) + 1))[k].mn 100), .int .i64 (min (raisedN s.heats 0 s.heats.length ((n : Int) + 1))[k].mx 100)]) (off:=0 + (k : Int).toNat * 2) (c':=(capN (raisedN s.heats 0 s.heats.length ((n : Int) + 1)) (k + 1)).flatMap rgC ++ junk4) rfl rfl rfl rfl rfl rfl (Nat.ble_eq_true_of_le (by show 0 + (k : Int).toNat * 2 + 2 ≤ _; rw [List.length_append, wO (m:=2) (fun _ _ => rfl)]; omega)) rfl (by rw [hoff, rg_wr hkc, ← capN_succ hkr]; rfl) ?_
      refine qH [_, _, _] rfl ?_
      refine qA rfl ?_
      refine qB (qO rfl (by omega)) ?_
      refine mvI rfl ?_
      refine ⟨k + 1, ⟨rfl, trivial⟩, rfl, rfl, E_k, fun h3 E3 => hkw, by first | omega | (dsimp only; omega), ?_⟩
      repeat (first | exact qV _ _ _ | refine qX (by decide) ?_ | refine qU rfl ?_ | refine qY rfl ?_)
     skip
     have hk3 : k = (warmL s.heats s.heats.length ((n : Int) + 1)).length := by have := geI hk2; omega
     subst hk3
     have ecap : capN (raisedN s.heats 0 s.heats.length ((n : Int) + 1)) (warmL s.heats s.heats.length ((n : Int) + 1)).length = warmL s.heats s.heats.length ((n : Int) + 1) := by rw [hwl.trans (hrl.symm), capN_all]; rfl
     refine yP 1 rfl ?_
     intro h6 E6 p6
     rw [ecap] at p6
     have Rw : SeasonR h6 (some ⟨b4, 0, none⟩) B1 B2 none ({ s with heats := warmL s.heats s.heats.length ((n : Int) + 1), reports := [] } : Season) := ⟨rg_row p6, R2.damps.ext (kX (kX (kX (kX (kX E3 E_n) E4) E5) E_k) E6), R2.joints.ext (kX (kX (kX (kX (kX E3 E_n) E4) E5) E_k) E6), ⟨fun _ h => (by cases h), Rd.nil _ _⟩⟩
     refine wV ?_
     refine qC (qA rfl ?_)
     refine qB (qK (v:=_) rfl) ?_
     refine qZ 0 (vs:=[.slice _ _ _, .slice _ _ _, .slice _ _ _, .slice _ _ _]) rfl rfl rfl rfl rfl ?_
     refine mvS rfl ?_
     refine op_invoke rfl (by kernel_rfl) rfl rfl (waxUnder_ok (bare s) B0 B1 B2 none (some ⟨b4, 0, none⟩) d0 d1 d2 0 _ cap4 h6) ?_
     rintro _ h7 E7 rfl
     refine wT (cs:=[_, _, _, _]) rfl rfl fun b15 hb15 => ?_
     refine qH [_, _, _] rfl ?_
     refine qS 2 (v:=.agg #[.slice _ _ _, .slice _ _ _, .slice _ _ _, .slice _ _ _]) (vs:=[_, _, _, _]) (c':=[_, _, _, _]) rfl rfl rfl rfl rfl rfl rfl rfl rfl ?_
     refine qH [_, _, _] rfl ?_
     refine qC (qC (qA rfl ?_))
     refine qZ 2 (vs:=[.slice _ _ _, .slice _ _ _, .slice _ _ _, .slice _ _ _]) rfl rfl rfl rfl rfl ?_
     refine wI (caps:=[]) (vs:=[.agg #[.slice _ _ _, .slice _ _ _, .slice _ _ _, .slice _ _ _]]) rfl rfl rfl (bothOf_ok ({ s with heats := warmL s.heats s.heats.length ((n : Int) + 1), reports := [] } : Season) SVw.b (some ⟨b4, 0, none⟩) B1 B2 none cap4 d1 d2 0 h7 (Rw.ext E7)) ?_
     rintro _ h8 E8 ⟨_, rfl, A, c, mf, fm, fl, A', c', mf', fm', fl', rfl, X, X'⟩
     refine qB (qK (v:=.tuple #[.agg #[.slice _ _ _, .map _, .map _, .map _, .map _, .slice _ _ _, .map _, .map _, .map _, .map _], .bool _]) rfl) ?_
     refine qB (wL (v:=.agg #[.slice _ _ _, .map _, .map _, .map _, .map _, .slice _ _ _, .map _, .map _, .map _, .map _]) rfl) ?_
     refine pvB rfl ?_
     refine wT (cs:=[_, _, _, _, _, _, _, _, _, _]) rfl rfl fun b16 hb16 => ?_
     refine qH [_, _, _, _] rfl ?_
     refine qS 3 (v:=.agg #[.slice _ _ _, .map _, .map _, .map _, .map _, .slice _ _ _, .map _, .map _, .map _, .map _]) (vs:=[_, _, _, _, _, _, _, _, _, _]) (c':=[_, _, _, _, _, _, _, _, _, _]) rfl rfl rfl rfl rfl rfl rfl rfl rfl ?_
     refine qH [_, _, _, _] rfl ?_
     refine asB rfl ?_
     refine qC (qA rfl ?_)
     refine qZ 3 (vs:=[.slice _ _ _, .map _, .map _, .map _, .map _, .slice _ _ _, .map _, .map _, .map _, .map _]) rfl rfl rfl rfl rfl ?_
     refine qZ 2 (vs:=[.slice _ _ _, .slice _ _ _, .slice _ _ _, .slice _ _ _]) rfl rfl rfl rfl rfl ?_
     refine mvI rfl ?_
     refine mvI rfl ?_
     refine wI (caps:=[]) (vs:=[.agg #[.slice _ _ _, .map _, .map _, .map _, .map _, .slice _ _ _, .map _, .map _, .map _, .map _], .agg #[.slice _ _ _, .slice _ _ _, .slice _ _ _, .slice _ _ _], .int .i64 _, .int .i64 _]) rfl rfl rfl (failed_ok ({ s with heats := warmL s.heats s.heats.length ((n : Int) + 1), reports := [] } : Season) SVw j w hj (by show w < (warmL _ _ _).length; omega) A c mf fm fl A' c' mf' fm' fl' (some ⟨b4, 0, none⟩) B1 B2 none cap4 d1 d2 0 h8 (Rw.ext (kX E7 E8)) (X.ext (Ext.refl _)) (X'.ext (Ext.refl _))) ?_
     rintro _ h9 E9 rfl
     refine pvB rfl ?_
     refine qP rfl (fun hf => ?_) (fun hf => ?_)
     ·skip
      refine wV ?_
      refine qC (qA rfl ?_)
      refine mvI rfl ?_
      refine asI rfl ?_
      refine asI rfl ?_
      refine qQ ?_
      refine qJ (vs:=[_, _]) Tryz.results20 ⟨qG rfl rfl, qG rfl rfl, trivial⟩ fun V => ?_
      refine ⟨(kX (kX (kX (kX (kX (kX (kX (kX (kX (kX (kX E1 E2) E3) E_n) E4) E5) E_k) E6) E7) E8) E9) (qN V)), ?_⟩
      rw [hm0, hval, marginM, find_range hn K2 (by rw [tooWarm, hka, warmS_1]; simpa using hf)]
      rfl
     skip
     have K3 : ∀ i, i < n + 1 → tooWarm s j w i = false := by
      intro i hi
      rcases Nat.lt_succ_iff_lt_or_eq.1 hi with h1 | h1
      ·exact K2 i h1
      rw [h1, tooWarm, hka, warmS_1]; simpa using hf
     refine qM ?_
     refine qA rfl ?_
     refine mvI rfl ?_
     refine qB (qO rfl (by omega)) ?_
     refine asI rfl ?_
     refine ⟨n + 1, ⟨rfl, trivial⟩, rfl, rfl, (kX (kX (kX (kX (kX (kX (kX E_n E4) E5) E_k) E6) E7) E8) E9), fun h3 E3 => ⟨hn, K3⟩, by first | omega | (dsimp only; omega), ?_⟩
     repeat (first | exact qV _ _ _ | refine qX (by decide) ?_ | refine qU rfl ?_ | refine qY rfl ?_)
    skip
    have hn : n = 30 := by have := geI (n:=30) ht; omega
    subst hn
    refine wV ?_
    refine qC (qA rfl ?_)
    refine mvI rfl ?_
    refine asI rfl ?_
    refine asI rfl ?_
    refine qQ ?_
    refine qJ (vs:=[_, _]) Tryz.results20 ⟨qG rfl rfl, qG rfl rfl, trivial⟩ fun V => ?_
    refine ⟨(kX (kX (kX (kX E1 E2) E3) E_n) (qN V)), ?_⟩
    rw [hm0, hval, marginM, find_range_none K2]
    rfl
   skip
   rw [hki] at hka ⊢
   refine qB (wA (v:=_) rfl) ?_
   refine qC (qA rfl ?_)
   refine asI rfl ?_
   refine qC ?_
   refine qT ?_
   refine zF [11, 12, 13, 14, 15, 16, 17, 40, 41, 42, 43, 44, 45, 46, 47, 48, 49, 50, 51, 52, 53, 54, 55, 56, 57, 58, 59, 60, 61, 62, 63, 64, 65, 66, 67, 68, 69, 70, 71, 72, 73, 74, 75, 76, 77, 78, 79, 80, 81, 82, 83, 84, 85, 86] 1 (α:=Nat) (fun n => [(11, .int .i64 n)]) (fun n => _) (fun n h_n => n ≤ 30 ∧ ∀ i, i < n → tooWarm s j w i = false) (fun n => 30 - n) (0) ⟨rfl, trivial⟩ (rfl) (⟨by omega, fun i hi => absurd hi (Nat.not_lt_zero i)⟩) ?_
   rintro n T3 h_n E_n J_n
   refine qR [_] rfl ?_
   obtain ⟨K1, K2⟩ := J_n
   have E2n := (kX E3 E_n)
   refine qC (qC (qA rfl ?_))
   refine mvI rfl ?_
   refine pvB rfl ?_
   refine qP rfl (fun ht => ?_) (fun ht => ?_)
   ·skip
    have hn : n < 30 := ltI (n:=30) ht
    have SVw : SeasonV ({ s with damps := warmL s.damps s.heats.length ((n : Int) + 1), reports := [] } : Season) := by rw [← warmS_2]; exact warmS_v SV (by omega)
    have hwl := warmL_len s.damps s.heats.length ((n : Int) + 1)
    have hrl := kP s.damps 0 s.heats.length ((n : Int) + 1)
    refine qM ?_
    refine qT ?_
    refine qC ?_
    refine zL [] rfl rfl rfl ?_
    refine qE (i:=0) rfl (by decide +kernel) (qK (v:=_) rfl) ?_
    refine wD (i:=1) rfl (by decide +kernel) ?_
    refine qZ 0 (vs:=[.slice _ _ _, .slice _ _ _, .slice _ _ _, .slice _ _ _]) rfl rfl rfl rfl rfl ?_
    refine qE (i:=3) rfl (by decide +kernel) (qD rfl rfl rfl rfl 0 rfl) ?_
    refine wD (i:=4) rfl (by decide +kernel) ?_
    refine qL 0 (v:=.slice _ _ _) rfl rfl rfl rfl ?_
    refine qE (i:=5) rfl (by decide +kernel) (wP rfl rfl) ?_
    refine qE (i:=6) rfl (by decide +kernel) (qO rfl (by omega)) ?_
    refine qE (i:=7) rfl (by decide +kernel) (qK (v:=.int .i64 _) rfl) ?_
    refine qE (i:=8) rfl (by decide +kernel) (qO rfl (by omega)) ?_
    refine wZ (i:=2) rfl (by decide +kernel) ?_
    refine op_invoke rfl (by kernel_rfl) rfl rfl (leatherWeather_ok (bare s) B0 B1 B2 none d0 d1 d2 0 h_n) ?_
    rintro _ h4 E4 rfl
    refine ⟨zJ E4 _, ?_⟩
    refine wU (i:=9) rfl (by decide +kernel) (by decide +kernel) ?_
    refine zM [_] [] [] rfl rfl rfl (raised_ok s.damps (by omega) (by omega) (fun r hr => by obtain ⟨a1, a2, a3, a4⟩ := SV.b.db r hr; omega) 0 s.heats.length (Nat.zero_le _) (by omega) _ rfl ((n : Int) + 1) (by omega) B1 d1 h4 (R2.damps.ext (kX (kX E3 E_n) E4))) ?_
    rintro _ h5 _ E5 ⟨b4, cap4, junk4, rfl, ev⟩
    refine wJ [_, _] rfl ?_
    rw [← hwl] at ev
    subst ev
    refine qE (i:=10) rfl (by decide +kernel) (wA (v:=.slice _ _ _) rfl) ?_
    refine zB rfl ?_
    refine qC (qC (qA rfl ?_))
    refine mvS rfl ?_
    refine qB (wP rfl rfl) ?_
    refine mvI rfl ?_
    refine qT ?_
    refine yC [13, 14, 54, 55, 56, 57, 58, 59, 60, 61, 62, 63, 64, 65, 66, 67, 68, 69] 2 (α:=Nat) (fun k => [(54, .int .i64 k)]) (fun k L => L.set 1 (some (b4, .cells ((capN (raisedN s.damps 0 s.heats.length ((n : Int) + 1)) k).flatMap rgC ++ junk4).toArray 56 (0, 0)))) (fun k h_k => k ≤ (warmL s.damps s.heats.length ((n : Int) + 1)).length) (fun k => (warmL s.damps s.heats.length ((n : Int) + 1)).length - k) (0) ⟨rfl, trivial⟩ (by rw [capN_zero]; rfl) (Nat.zero_le _) ?_
    rintro k T4 h_k E_k J_k
    refine qR [_, _] rfl ?_
    refine qC (qA rfl ?_)
    refine pvB rfl ?_
    refine qC ?_
    refine qP rfl (fun hk2 => ?_) (fun hk2 => ?_)
    ·skip
     have hkw := ltI hk2
     have hkr : k < (raisedN s.damps 0 s.heats.length ((n : Int) + 1)).length := by omega
     have hkc : k < (capN (raisedN s.damps 0 s.heats.length ((n : Int) + 1)) k).length := by rw [capN_len]; exact hkr
     have hoff : 0 + (k : Int).toNat * 2 = k * 2 := by omega
     refine qM ?_
     refine qC ?_
     refine qT ?_
     refine qC (qA rfl ?_)
     refine mvI rfl ?_
     refine qB (zK rfl rfl rfl rfl (by omega) (by omega)) ?_
     refine op_loadW (cs:=[.int .i64 (raisedN s.damps 0 s.heats.length ((n : Int) + 1))[k].mn, .int .i64 (raisedN s.damps 0 s.heats.length ((n : Int) + 1))[k].mx]) (off:=0 + (k : Int).toNat * 2) rfl rfl rfl rfl (fun V => by rw [hoff]; exact rg_cells (i:=1) rfl V (capN_at hkr)) ?_
     refine wT (cs:=[_, _]) rfl rfl fun b14_1 hb14_1 => ?_
     refine qH [_, _, _] rfl ?_
     refine asI rfl ?_
     refine qS 2 (v:=.agg #[.int .i64 _, .int .i64 _]) (vs:=[_, _]) (c':=[_, _]) rfl rfl rfl rfl rfl rfl rfl rfl rfl ?_
     refine qH [_, _, _] rfl ?_
     refine qA rfl ?_
     refine mvS rfl ?_
     refine mvI rfl ?_
     refine qB (qD rfl rfl rfl rfl 0 rfl) ?_
     refine qL 2 (v:=.int .i64 _) rfl rfl rfl rfl ?_
     refine qB (pv_min rfl rfl) ?_
     refine qB (qD rfl rfl rfl rfl 1 rfl) ?_
     refine qL 2 (v:=.int .i64 _) rfl rfl rfl rfl ?_
     refine qB (pv_min rfl rfl) ?_
     refine qB (zD (zc:=[_, _]) (vs:=[(0, .int .i64 _), (1, .int .i64 _)]) (cs:=[_, _]) rfl rfl rfl rfl rfl rfl) ?_
     refine qB (zK rfl rfl rfl rfl (by omega) (by omega)) ?_
     refine qS 1 (v:=.agg #[.int .i64 _, .int .i64 _]) (vs:=[.int .i64 (min (raisedN s.damps 0 s.heats.length ((n : Int) + 1))[k].mn 100), .int .i64 (min (raisedN s.damps 0 s.heats.length ((n : Int) + 1))[k].mx 100)]) (off:=0 + (k : Int).toNat * 2) (c':=(capN (raisedN s.damps 0 s.heats.length ((n : Int) + 1)) (k + 1)).flatMap rgC ++ junk4) rfl rfl rfl rfl rfl rfl (Nat.ble_eq_true_of_le (by show 0 + (k : Int).toNat * 2 + 2 ≤ _; rw [List.length_append, wO (m:=2) (fun _ _ => rfl)]; omega)) rfl (by rw [hoff, rg_wr hkc, ← capN_succ hkr]; rfl) ?_
     refine qH [_, _, _] rfl ?_
     refine qA rfl ?_
     refine qB (qO rfl (by omega)) ?_
     refine mvI rfl ?_
     refine ⟨k + 1, ⟨rfl, trivial⟩, rfl, rfl, E_k, fun h3 E3 => hkw, by first | omega | (dsimp only; omega), ?_⟩
     repeat (first | exact qV _ _ _ | refine qX (by decide) ?_ | refine qU rfl ?_ | refine qY rfl ?_)
    skip
    have hk3 : k = (warmL s.damps s.heats.length ((n : Int) + 1)).length := by have := geI hk2; omega
    subst hk3
    have ecap : capN (raisedN s.damps 0 s.heats.length ((n : Int) + 1)) (warmL s.damps s.heats.length ((n : Int) + 1)).length = warmL s.damps s.heats.length ((n : Int) + 1) := by rw [hwl.trans (hrl.symm), capN_all]; rfl
    refine yP 1 rfl ?_
    intro h6 E6 p6
    rw [ecap] at p6
    have Rw : SeasonR h6 B0 (some ⟨b4, 0, none⟩) B2 none ({ s with damps := warmL s.damps s.heats.length ((n : Int) + 1), reports := [] } : Season) := ⟨R2.heats.ext (kX (kX (kX (kX (kX E3 E_n) E4) E5) E_k) E6), rg_row p6, R2.joints.ext (kX (kX (kX (kX (kX E3 E_n) E4) E5) E_k) E6), ⟨fun _ h => (by cases h), Rd.nil _ _⟩⟩
    refine wV ?_
    refine qC (qA rfl ?_)
    refine qB (qK (v:=_) rfl) ?_
    refine qZ 0 (vs:=[.slice _ _ _, .slice _ _ _, .slice _ _ _, .slice _ _ _]) rfl rfl rfl rfl rfl ?_
    refine mvS rfl ?_
    refine op_invoke rfl (by kernel_rfl) rfl rfl (leatherUnder_ok (bare s) B0 B1 B2 none (some ⟨b4, 0, none⟩) d0 d1 d2 0 _ cap4 h6) ?_
    rintro _ h7 E7 rfl
    refine wT (cs:=[_, _, _, _]) rfl rfl fun b15_1 hb15_1 => ?_
    refine qH [_, _, _] rfl ?_
    refine qS 2 (v:=.agg #[.slice _ _ _, .slice _ _ _, .slice _ _ _, .slice _ _ _]) (vs:=[_, _, _, _]) (c':=[_, _, _, _]) rfl rfl rfl rfl rfl rfl rfl rfl rfl ?_
    refine qH [_, _, _] rfl ?_
    refine qC (qC (qA rfl ?_))
    refine qZ 2 (vs:=[.slice _ _ _, .slice _ _ _, .slice _ _ _, .slice _ _ _]) rfl rfl rfl rfl rfl ?_
    refine wI (caps:=[]) (vs:=[.agg #[.slice _ _ _, .slice _ _ _, .slice _ _ _, .slice _ _ _]]) rfl rfl rfl (bothOf_ok ({ s with damps := warmL s.damps s.heats.length ((n : Int) + 1), reports := [] } : Season) SVw.b B0 (some ⟨b4, 0, none⟩) B2 none d0 cap4 d2 0 h7 (Rw.ext E7)) ?_
    rintro _ h8 E8 ⟨_, rfl, A, c, mf, fm, fl, A', c', mf', fm', fl', rfl, X, X'⟩
    refine qB (qK (v:=.tuple #[.agg #[.slice _ _ _, .map _, .map _, .map _, .map _, .slice _ _ _, .map _, .map _, .map _, .map _], .bool _]) rfl) ?_
    refine qB (wL (v:=.agg #[.slice _ _ _, .map _, .map _, .map _, .map _, .slice _ _ _, .map _, .map _, .map _, .map _]) rfl) ?_
    refine pvB rfl ?_
    refine wT (cs:=[_, _, _, _, _, _, _, _, _, _]) rfl rfl fun b16_1 hb16_1 => ?_
    refine qH [_, _, _, _] rfl ?_
    refine qS 3 (v:=.agg #[.slice _ _ _, .map _, .map _, .map _, .map _, .slice _ _ _, .map _, .map _, .map _, .map _]) (vs:=[_, _, _, _, _, _, _, _, _, _]) (c':=[_, _, _, _, _, _, _, _, _, _]) rfl rfl rfl rfl rfl rfl rfl rfl rfl ?_
    refine qH [_, _, _, _] rfl ?_
    refine asB rfl ?_
    refine qC (qA rfl ?_)
    refine qZ 3 (vs:=[.slice _ _ _, .map _, .map _, .map _, .map _, .slice _ _ _, .map _, .map _, .map _, .map _]) rfl rfl rfl rfl rfl ?_
    refine qZ 2 (vs:=[.slice _ _ _, .slice _ _ _, .slice _ _ _, .slice _ _ _]) rfl rfl rfl rfl rfl ?_
    refine mvI rfl ?_
    refine mvI rfl ?_
    refine wI (caps:=[]) (vs:=[.agg #[.slice _ _ _, .map _, .map _, .map _, .map _, .slice _ _ _, .map _, .map _, .map _, .map _], .agg #[.slice _ _ _, .slice _ _ _, .slice _ _ _, .slice _ _ _], .int .i64 _, .int .i64 _]) rfl rfl rfl (failed_ok ({ s with damps := warmL s.damps s.heats.length ((n : Int) + 1), reports := [] } : Season) SVw j w hj (by exact hw) A c mf fm fl A' c' mf' fm' fl' B0 (some ⟨b4, 0, none⟩) B2 none d0 cap4 d2 0 h8 (Rw.ext (kX E7 E8)) (X.ext (Ext.refl _)) (X'.ext (Ext.refl _))) ?_
    rintro _ h9 E9 rfl
    refine pvB rfl ?_
    refine qP rfl (fun hf => ?_) (fun hf => ?_)
    ·skip
     refine wV ?_
     refine qC (qA rfl ?_)
     refine mvI rfl ?_
     refine asI rfl ?_
     refine asI rfl ?_
     refine qQ ?_
     refine qJ (vs:=[_, _]) Tryz.results20 ⟨qG rfl rfl, qG rfl rfl, trivial⟩ fun V => ?_
     refine ⟨(kX (kX (kX (kX (kX (kX (kX (kX (kX (kX (kX E1 E2) E3) E_n) E4) E5) E_k) E6) E7) E8) E9) (qN V)), ?_⟩
     rw [hm0, hval, marginM, find_range hn K2 (by rw [tooWarm, hka, warmS_2]; simpa using hf)]
     rfl
    skip
    have K3 : ∀ i, i < n + 1 → tooWarm s j w i = false := by
     intro i hi
     rcases Nat.lt_succ_iff_lt_or_eq.1 hi with h1 | h1
     ·exact K2 i h1
     rw [h1, tooWarm, hka, warmS_2]; simpa using hf
    refine qM ?_
    refine qA rfl ?_
    refine mvI rfl ?_
    refine qB (qO rfl (by omega)) ?_
    refine asI rfl ?_
    refine ⟨n + 1, ⟨rfl, trivial⟩, rfl, rfl, (kX (kX (kX (kX (kX (kX (kX E_n E4) E5) E_k) E6) E7) E8) E9), fun h3 E3 => ⟨hn, K3⟩, by first | omega | (dsimp only; omega), ?_⟩
    repeat (first | exact qV _ _ _ | refine qX (by decide) ?_ | refine qU rfl ?_ | refine qY rfl ?_)
   skip
   have hn : n = 30 := by have := geI (n:=30) ht; omega
   subst hn
   refine wV ?_
   refine qC (qA rfl ?_)
   refine mvI rfl ?_
   refine asI rfl ?_
   refine asI rfl ?_
   refine qQ ?_
   refine qJ (vs:=[_, _]) Tryz.results20 ⟨qG rfl rfl, qG rfl rfl, trivial⟩ fun V => ?_
   refine ⟨(kX (kX (kX (kX E1 E2) E3) E_n) (qN V)), ?_⟩
   rw [hm0, hval, marginM, find_range_none K2]
   rfl
  have hm0 : marginE s joint week = 11 := by rw [marginE, if_pos he, if_neg hv]
  refine qW Tryz.func20 rfl Tryz.ntmps20 rfl ?_
  refine qC (qA rfl ?_)
  refine zC (v:=.agg #[.slice _ _ _, .slice _ _ _, .slice _ _ _, .slice _ _ _]) (cs:=[_, _, _, _]) rfl rfl fun b3 hb3 => ?_
  refine qH [_] rfl ?_
  refine asI rfl ?_
  refine asI rfl ?_
  refine qC (qA rfl ?_)
  refine qZ 0 (vs:=[.slice _ _ _, .slice _ _ _, .slice _ _ _, .slice _ _ _]) rfl rfl rfl rfl rfl ?_
  refine mvI rfl ?_
  refine mvI rfl ?_
  refine wI (caps:=[]) (vs:=[.agg #[.slice _ _ _, .slice _ _ _, .slice _ _ _, .slice _ _ _], .int .i64 _, .int .i64 _]) rfl rfl rfl (Failed_ok s Sm _ _ A0 A1 A2 A3 c0 c1 c2 c3 h R) ?_
  rintro _ h1 E1 rfl
  refine qB (qK (v:=.tuple #[.int .i64 _, .int .i64 _]) rfl) ?_
  refine qB (wL (v:=.int .i64 _) rfl) ?_
  refine qB (wL (v:=.int .i64 _) rfl) ?_
  refine asI rfl ?_
  refine asI rfl ?_
  refine qC (qC (qA rfl ?_))
  refine mvI rfl ?_
  refine pvB rfl ?_
  refine wS rfl (by simp [he]) ?_
  refine qM ?_
  refine qC (qC (qA rfl ?_))
  refine mvI rfl ?_
  refine pvB rfl ?_
  refine wW rfl (by simp [hv]) ?_
  refine qC (qA rfl ?_)
  refine asI rfl ?_
  refine asI rfl ?_
  refine qQ ?_
  refine qJ (vs:=[_, _]) Tryz.results20 ⟨qG rfl rfl, qG rfl rfl, trivial⟩ fun V => ?_
  refine ⟨(kX E1 (qN V)), ?_⟩
  rw [marginV, hm0]; rfl
 have hm0 : marginE s joint week = failedE s joint week := by rw [marginE, if_neg he]
 refine qW Tryz.func20 rfl Tryz.ntmps20 rfl ?_
 refine qC (qA rfl ?_)
 refine zC (v:=.agg #[.slice _ _ _, .slice _ _ _, .slice _ _ _, .slice _ _ _]) (cs:=[_, _, _, _]) rfl rfl fun b3 hb3 => ?_
 refine qH [_] rfl ?_
 refine asI rfl ?_
 refine asI rfl ?_
 refine qC (qA rfl ?_)
 refine qZ 0 (vs:=[.slice _ _ _, .slice _ _ _, .slice _ _ _, .slice _ _ _]) rfl rfl rfl rfl rfl ?_
 refine mvI rfl ?_
 refine mvI rfl ?_
 refine wI (caps:=[]) (vs:=[.agg #[.slice _ _ _, .slice _ _ _, .slice _ _ _, .slice _ _ _], .int .i64 _, .int .i64 _]) rfl rfl rfl (Failed_ok s Sm _ _ A0 A1 A2 A3 c0 c1 c2 c3 h R) ?_
 rintro _ h1 E1 rfl
 refine qB (qK (v:=.tuple #[.int .i64 _, .int .i64 _]) rfl) ?_
 refine qB (wL (v:=.int .i64 _) rfl) ?_
 refine qB (wL (v:=.int .i64 _) rfl) ?_
 refine asI rfl ?_
 refine asI rfl ?_
 refine qC (qC (qA rfl ?_))
 refine mvI rfl ?_
 refine pvB rfl ?_
 refine wW rfl (by simp [he]) ?_
 refine qC (qA rfl ?_)
 refine mvI rfl ?_
 refine asI rfl ?_
 refine asI rfl ?_
 refine qQ ?_
 refine qJ (vs:=[_, _]) Tryz.results20 ⟨qG rfl rfl, qG rfl rfl, trivial⟩ fun V => ?_
 refine ⟨(kX E1 (qN V)), ?_⟩
 rw [marginV, hm0, if_neg he]; rfl
end Go.Proofs.YtboigjfgpppeaaaGreatDoor
namespace Go.Proofs.YtboigjfgpppeaaaGreatDoor
open Go Go.HL Go.Proofs Go.Wx
variable [Lvl]
set_option maxRecDepth 100000
theorem yG {α : Type} {enc : α → List Value} {m : Nat} {l : List α} (hl : ∀ x ∈ l, (enc x).length = m) {h : AH} {b : Nat} {t : TypeId} (hb : h b = some (.cells (l.flatMap enc).toArray t (0, 0))) : Row h m enc (some ⟨b, 0, none⟩) l :=
 ⟨hl, fun _ => ⟨b, 0, rfl, cells_blk hb⟩⟩
def season0 : Season := ⟨[⟨20, 21⟩, ⟨28, 30⟩, ⟨10, 10⟩], [⟨50, 50⟩, ⟨50, 50⟩, ⟨50, 50⟩], [⟨1, ⟨30, 31⟩, ⟨10, 10⟩, ⟨1, 2⟩, ⟨9, 9⟩⟩, ⟨2, ⟨60, 60⟩, ⟨40, 40⟩, ⟨1, 1⟩, ⟨1, 2⟩⟩], []⟩
def told0 : Season := { season0 with reports := [⟨0, 1, true⟩] }
theorem to_ok (a b : Int) (h : AH) : FnT Tryz.prog 42 #[.int .i64 a, .int .i64 b] h (fun v _ => v = .agg #[.int .i64 a, .int .i64 b]) := by
 refine qW Tryz.func42 rfl Tryz.ntmps42 rfl ?_
 refine qC (qA rfl ?_)
 refine wT (cs:=[_, _]) rfl rfl fun b4 hb4 => ?_
 refine qH [_] rfl ?_
 refine qC (qA rfl ?_)
 refine mvI rfl ?_
 refine mvI rfl ?_
 refine qB (zD (zc:=[_, _]) (vs:=[(0, .int .i64 _), (1, .int .i64 _)]) (cs:=[_, _]) rfl rfl rfl rfl rfl rfl) ?_
 refine qS 0 (v:=.agg #[.int .i64 _, .int .i64 _]) (vs:=[_, _]) (c':=[_, _]) rfl rfl rfl rfl rfl rfl rfl rfl rfl ?_
 refine qH [_] rfl ?_
 refine qQ ?_
 refine qJ (vs:=[_]) Tryz.results42 ⟨zI 0 rfl rfl rfl rfl rfl (vs:=[.int .i64 _, .int .i64 _]) rfl, trivial⟩ fun V => ?_
 exact ⟨(qN V), rfl⟩
theorem season0_ok (h : AH) : FnT Tryz.prog 16 #[] h (fun v h' => SeasonS h' season0 v) := by
 refine qW Tryz.func16 rfl Tryz.ntmps16 rfl ?_
 refine qC (qA rfl ?_)
 refine wT (cs:=[_, _, _, _]) rfl rfl fun b0 hb0 => ?_
 refine qH [_] rfl ?_
 refine qC (qA rfl ?_)
 refine wI (caps:=[]) (vs:=[.int .i64 _, .int .i64 _]) rfl rfl rfl (to_ok _ _ h) ?_
 rintro _ h1 E1 rfl
 refine wI (caps:=[]) (vs:=[.int .i64 _, .int .i64 _]) rfl rfl rfl (to_ok _ _ h1) ?_
 rintro _ h2 E2 rfl
 refine wI (caps:=[]) (vs:=[.int .i64 _, .int .i64 _]) rfl rfl rfl (to_ok _ _ h2) ?_
 rintro _ h3 E3 rfl
 refine wG (zc:=[_, _]) (vs:=[(0, .agg #[.int .i64 _, .int .i64 _]), (1, .agg #[.int .i64 _, .int .i64 _]), (2, .agg #[.int .i64 _, .int .i64 _])]) (cs:=[_, _, _, _, _, _]) rfl rfl rfl rfl rfl rfl rfl fun b4 hb4 => ?_
 refine qH [_, _] rfl ?_
 refine wI (caps:=[]) (vs:=[.int .i64 _, .int .i64 _]) rfl rfl rfl (to_ok _ _ h3) ?_
 rintro _ h4 E4 rfl
 refine wI (caps:=[]) (vs:=[.int .i64 _, .int .i64 _]) rfl rfl rfl (to_ok _ _ h4) ?_
 rintro _ h5 E5 rfl
 refine wI (caps:=[]) (vs:=[.int .i64 _, .int .i64 _]) rfl rfl rfl (to_ok _ _ h5) ?_
 rintro _ h6 E6 rfl
 refine wG (zc:=[_, _]) (vs:=[(0, .agg #[.int .i64 _, .int .i64 _]), (1, .agg #[.int .i64 _, .int .i64 _]), (2, .agg #[.int .i64 _, .int .i64 _])]) (cs:=[_, _, _, _, _, _]) rfl rfl rfl rfl rfl rfl rfl fun b8 hb8 => ?_
 refine qH [_, _, _] rfl ?_
 refine wI (caps:=[]) (vs:=[.int .i64 _, .int .i64 _]) rfl rfl rfl (to_ok _ _ h6) ?_
 rintro _ h7 E7 rfl
 refine wI (caps:=[]) (vs:=[.int .i64 _, .int .i64 _]) rfl rfl rfl (to_ok _ _ h7) ?_
 rintro _ h8 E8 rfl
 refine wI (caps:=[]) (vs:=[.int .i64 _, .int .i64 _]) rfl rfl rfl (to_ok _ _ h8) ?_
 rintro _ h9 E9 rfl
 refine wI (caps:=[]) (vs:=[.int .i64 _, .int .i64 _]) rfl rfl rfl (to_ok _ _ h9) ?_
 rintro _ h10 E10 rfl
 refine qB (zD (zc:=[_, _, _, _, _, _, _, _, _]) (vs:=[(0, .int .i64 _), (1, .agg #[.int .i64 _, .int .i64 _]), (2, .agg #[.int .i64 _, .int .i64 _]), (3, .agg #[.int .i64 _, .int .i64 _]), (4, .agg #[.int .i64 _, .int .i64 _])]) (cs:=[_, _, _, _, _, _, _, _, _]) rfl rfl rfl rfl rfl rfl) ?_
 refine wI (caps:=[]) (vs:=[.int .i64 _, .int .i64 _]) rfl rfl rfl (to_ok _ _ h10) ?_
 rintro _ h11 E11 rfl
 refine wI (caps:=[]) (vs:=[.int .i64 _, .int .i64 _]) rfl rfl rfl (to_ok _ _ h11) ?_
 rintro _ h12 E12 rfl
 refine wI (caps:=[]) (vs:=[.int .i64 _, .int .i64 _]) rfl rfl rfl (to_ok _ _ h12) ?_
 rintro _ h13 E13 rfl
 refine wI (caps:=[]) (vs:=[.int .i64 _, .int .i64 _]) rfl rfl rfl (to_ok _ _ h13) ?_
 rintro _ h14 E14 rfl
 refine qB (zD (zc:=[_, _, _, _, _, _, _, _, _]) (vs:=[(0, .int .i64 _), (1, .agg #[.int .i64 _, .int .i64 _]), (2, .agg #[.int .i64 _, .int .i64 _]), (3, .agg #[.int .i64 _, .int .i64 _]), (4, .agg #[.int .i64 _, .int .i64 _])]) (cs:=[_, _, _, _, _, _, _, _, _]) rfl rfl rfl rfl rfl rfl) ?_
 refine op_buildSliceR (zc:=[_, _, _, _, _, _, _, _, _]) [[.int .i64 _, .int .i64 _, .int .i64 _, .int .i64 _, .int .i64 _, .int .i64 _, .int .i64 _, .int .i64 _, .int .i64 _], [.int .i64 _, .int .i64 _, .int .i64 _, .int .i64 _, .int .i64 _, .int .i64 _, .int .i64 _, .int .i64 _, .int .i64 _]] rfl rfl rfl rfl rfl rfl rfl rfl fun b19 hb19 => ?_
 refine qH [_, _, _, _] rfl ?_
 refine qB (zD (zc:=[_, _, _, _]) (vs:=[(0, .slice _ _ _), (1, .slice _ _ _), (2, .slice _ _ _)]) (cs:=[_, _, _, _]) rfl rfl rfl rfl rfl rfl) ?_
 refine qS 0 (v:=.agg #[.slice _ _ _, .slice _ _ _, .slice _ _ _, .slice _ _ _]) (vs:=[_, _, _, _]) (c':=[_, _, _, _]) rfl rfl rfl rfl rfl rfl rfl rfl rfl ?_
 refine qH [_, _, _, _] rfl ?_
 refine qQ ?_
 refine qJ (vs:=[_]) Tryz.results16 ⟨zI 0 rfl rfl rfl rfl rfl (vs:=[.slice _ _ _, .slice _ _ _, .slice _ _ _, .slice _ _ _]) rfl, trivial⟩ fun V => ?_
 exact ⟨(kX (kX (kX (kX (kX (kX (kX (kX (kX (kX (kX (kX (kX (kX E1 E2) E3) E4) E5) E6) E7) E8) E9) E10) E11) E12) E13) E14) (qN V)), some ⟨b4, 0, none⟩, some ⟨b8, 0, none⟩, some ⟨b19, 0, none⟩, none, 3, 3, 2, 0, rfl, yG (enc:=rgC) (m:=2) (l:=season0.heats) (fun _ _ => rfl) (zP V (i:=1) rfl), yG (enc:=rgC) (m:=2) (l:=season0.damps) (fun _ _ => rfl) (zP V (i:=2) rfl), yG (enc:=jointC) (m:=9) (l:=season0.joints) (fun _ _ => rfl) (zP V (i:=3) rfl), fun _ h => (by cases h), Rd.nil _ _⟩
theorem told0_ok (h : AH) : FnT Tryz.prog 18 #[] h (fun v h' => SeasonS h' told0 v) := by
 refine qW Tryz.func18 rfl Tryz.ntmps18 rfl ?_
 refine qC (qA rfl ?_)
 refine wT (cs:=[_, _, _, _]) rfl rfl fun b0 hb0 => ?_
 refine qH [_] rfl ?_
 refine qC (qA rfl ?_)
 refine wI (caps:=[]) (vs:=[]) rfl rfl rfl (season0_ok h) ?_
 rintro _ h1 E1 ⟨A0, A1, A2, A3, c0, c1, c2, c3, rfl, R⟩
 refine wT (cs:=[_, _, _, _]) rfl rfl fun b1 hb1 => ?_
 refine qH [_, _] rfl ?_
 refine qS 1 (v:=.agg #[.slice _ _ _, .slice _ _ _, .slice _ _ _, .slice _ _ _]) (vs:=[_, _, _, _]) (c':=[_, _, _, _]) rfl rfl rfl rfl rfl rfl rfl rfl rfl ?_
 refine qH [_, _] rfl ?_
 refine qC (qA rfl ?_)
 refine qB (zD (zc:=[_, _, _]) (vs:=[(1, .int .i64 _), (2, .bool _)]) (cs:=[_, _, _]) rfl rfl rfl rfl rfl rfl) ?_
 refine wG (zc:=[_, _, _]) (vs:=[(0, .agg #[.int .i64 _, .int .i64 _, .bool _])]) (cs:=[_, _, _]) rfl rfl rfl rfl rfl rfl rfl fun b4 hb4 => ?_
 refine qH [_, _, _] rfl ?_
 refine qB (qD rfl rfl rfl rfl 3 rfl) ?_
 refine qS 1 (v:=.slice _ _ _) (vs:=[_]) (c':=[_, _, _, _]) rfl rfl rfl rfl rfl rfl rfl rfl rfl ?_
 refine qH [_, _, _] rfl ?_
 refine qC (qA rfl ?_)
 refine qZ 1 (vs:=[.slice _ _ _, .slice _ _ _, .slice _ _ _, .slice _ _ _]) rfl rfl rfl rfl rfl ?_
 refine qS 0 (v:=.agg #[.slice _ _ _, .slice _ _ _, .slice _ _ _, .slice _ _ _]) (vs:=[_, _, _, _]) (c':=[_, _, _, _]) rfl rfl rfl rfl rfl rfl rfl rfl rfl ?_
 refine qH [_, _, _] rfl ?_
 refine qQ ?_
 refine qJ (vs:=[_]) Tryz.results18 ⟨zI 0 rfl rfl rfl rfl rfl (vs:=[.slice _ _ _, .slice _ _ _, .slice _ _ _, .slice _ _ _]) rfl, trivial⟩ fun V => ?_
 exact ⟨(kX E1 (qN V)), A0, A1, A2, some ⟨b4, 0, none⟩, c0, c1, c2, 1, rfl, R.heats.ext (qN V), R.damps.ext (qN V), R.joints.ext (qN V), yG (enc:=seenC) (m:=3) (l:=told0.reports) (fun _ _ => rfl) (zP V (i:=2) rfl)⟩
theorem w_fails : failsL season0 0 = [1, 2, 3] ∧ failsE season0 0 = 0 := by decide +kernel
theorem w_first : firstL told0 = [1, 3] ∧ firstE told0 = 0 := by decide +kernel
theorem w_inspect : inspectL season0 0 = [1, 2] ∧ inspectE season0 0 = 0 := by decide +kernel
theorem w_margin : marginV season0 0 0 = 8 ∧ marginE season0 0 0 = 0 := by decide +kernel
theorem w_causes : causesL season0 0 = [3, 3, 2] := by decide +kernel
theorem small0 : Small season0 := ⟨by decide, by decide, by decide, by decide⟩
theorem smallT : Small told0 := ⟨by decide, by decide, by decide, by decide⟩
section
variable (A0 A1 A2 A3 : Option Addr) (c0 c1 c2 c3 : Nat) (h : AH)
theorem wFails (R : SeasonR h A0 A1 A2 A3 season0) : FnT Tryz.prog 15 #[seasonV A0 A1 A2 A3 c0 c1 c2 c3 season0, .int .i64 0] h (fun v h' => ∃ w, v = .tuple #[w, .int .i64 0] ∧ SlR h' 1 intC [1, 2, 3] w) := by
 have := Fails_ok season0 small0 0 A0 A1 A2 A3 c0 c1 c2 c3 h R
 rw [w_fails.1, w_fails.2] at this
 exact this
theorem wFirst (R : SeasonR h A0 A1 A2 A3 told0) : FnT Tryz.prog 17 #[seasonV A0 A1 A2 A3 c0 c1 c2 c3 told0] h (fun v h' => ∃ w, v = .tuple #[w, .int .i64 0] ∧ SlR h' 1 intC [1, 3] w) := by
 have := First_ok told0 smallT A0 A1 A2 A3 c0 c1 c2 c3 h R
 rw [w_first.1, w_first.2] at this
 exact this
theorem wInspect (R : SeasonR h A0 A1 A2 A3 season0) : FnT Tryz.prog 19 #[seasonV A0 A1 A2 A3 c0 c1 c2 c3 season0, .int .i64 0] h (fun v h' => ∃ w, v = .tuple #[w, .int .i64 0] ∧ SlR h' 1 intC [1, 2] w) := by
 have := Inspect_ok season0 small0 0 A0 A1 A2 A3 c0 c1 c2 c3 h R
 rw [w_inspect.1, w_inspect.2] at this
 exact this
theorem wMargin (R : SeasonR h A0 A1 A2 A3 season0) : FnT Tryz.prog 20 #[seasonV A0 A1 A2 A3 c0 c1 c2 c3 season0, .int .i64 0, .int .i64 0] h (fun v _ => v = .tuple #[.int .i64 8, .int .i64 0]) := by
 have := Margin_ok season0 small0 0 0 A0 A1 A2 A3 c0 c1 c2 c3 h R
 rw [w_margin.1, w_margin.2] at this
 exact this
theorem wCauses (R : SeasonR h A0 A1 A2 A3 season0) : FnT Tryz.prog 21 #[seasonV A0 A1 A2 A3 c0 c1 c2 c3 season0, .int .i64 0] h (fun v h' => ∃ w, v = .tuple #[w, .int .i64 0] ∧ SlR h' 1 intC [3, 3, 2] w) := by
 have := Causes_ok season0 small0 0 A0 A1 A2 A3 c0 c1 c2 c3 h R
 rw [w_causes, w_fails.2] at this
 exact this
end
end Go.Proofs.YtboigjfgpppeaaaGreatDoor
namespace Go.Proofs.YtboigjfgpppeaaaGreatDoor
open Go Go.HL Go.Proofs Go.Wx
variable [Lvl]
set_option maxRecDepth 100000
set_option maxHeartbeats 4000000 in
theorem warm_ok (h : AH) : FnT Tryz.prog 6 #[] h (fun v _ => v = .bool true) := by
 refine qW Tryz.func6 rfl Tryz.ntmps6 rfl ?_
 refine qC (qA rfl ?_)
 refine asB rfl ?_
 refine qC (qA rfl ?_)
 refine wI (caps:=[]) (vs:=[]) rfl rfl rfl (season0_ok h) ?_
 rintro _ h1 E1 ⟨A0, A1, A2, A3, c0, c1, c2, c3, rfl, R1⟩
 refine wI (caps:=[]) (vs:=[.agg #[.slice _ _ _, .slice _ _ _, .slice _ _ _, .slice _ _ _], .int .i64 _]) rfl rfl rfl (wFails _ _ _ _ _ _ _ _ h1 R1) ?_
 rintro _ h2 E2 ⟨_, rfl, B2, d2, rfl, S2⟩
 refine qB (qK (v:=.tuple #[.slice _ _ _, .int .i64 _]) rfl) ?_
 refine qB (wL (v:=.slice _ _ _) rfl) ?_
 refine qB (wL (v:=.int .i64 _) rfl) ?_
 refine asS rfl ?_
 refine asI rfl ?_
 refine qC (qA rfl ?_)
 refine wI (caps:=[]) (vs:=[]) rfl rfl rfl (told0_ok h2) ?_
 rintro _ h3 E3 ⟨A0, A1, A2, A3, c0, c1, c2, c3, rfl, R3⟩
 refine wI (caps:=[]) (vs:=[.agg #[.slice _ _ _, .slice _ _ _, .slice _ _ _, .slice _ _ _]]) rfl rfl rfl (wFirst _ _ _ _ _ _ _ _ h3 R3) ?_
 rintro _ h4 E4 ⟨_, rfl, B4, d4, rfl, S4⟩
 refine qB (qK (v:=.tuple #[.slice _ _ _, .int .i64 _]) rfl) ?_
 refine qB (wL (v:=.slice _ _ _) rfl) ?_
 refine qB (wL (v:=.int .i64 _) rfl) ?_
 refine asS rfl ?_
 refine asI rfl ?_
 refine qC (qA rfl ?_)
 refine wI (caps:=[]) (vs:=[]) rfl rfl rfl (season0_ok h4) ?_
 rintro _ h5 E5 ⟨A0, A1, A2, A3, c0, c1, c2, c3, rfl, R5⟩
 refine wI (caps:=[]) (vs:=[.agg #[.slice _ _ _, .slice _ _ _, .slice _ _ _, .slice _ _ _], .int .i64 _]) rfl rfl rfl (wInspect _ _ _ _ _ _ _ _ h5 R5) ?_
 rintro _ h6 E6 ⟨_, rfl, B6, d6, rfl, S6⟩
 refine qB (qK (v:=.tuple #[.slice _ _ _, .int .i64 _]) rfl) ?_
 refine qB (wL (v:=.slice _ _ _) rfl) ?_
 refine qB (wL (v:=.int .i64 _) rfl) ?_
 refine asS rfl ?_
 refine asI rfl ?_
 refine qC (qA rfl ?_)
 refine wI (caps:=[]) (vs:=[]) rfl rfl rfl (season0_ok h6) ?_
 rintro _ h7 E7 ⟨A0, A1, A2, A3, c0, c1, c2, c3, rfl, R7⟩
 refine wI (caps:=[]) (vs:=[.agg #[.slice _ _ _, .slice _ _ _, .slice _ _ _, .slice _ _ _], .int .i64 _, .int .i64 _]) rfl rfl rfl (wMargin _ _ _ _ _ _ _ _ h7 R7) ?_
 rintro _ h8 E8 rfl
 refine qB (qK (v:=.tuple #[.int .i64 _, .int .i64 _]) rfl) ?_
 refine qB (wL (v:=.int .i64 _) rfl) ?_
 refine qB (wL (v:=.int .i64 _) rfl) ?_
 refine asI rfl ?_
 refine asI rfl ?_
 refine qC (qA rfl ?_)
 refine wI (caps:=[]) (vs:=[]) rfl rfl rfl (season0_ok h8) ?_
 rintro _ h9 E9 ⟨A0, A1, A2, A3, c0, c1, c2, c3, rfl, R9⟩
 refine wI (caps:=[]) (vs:=[.agg #[.slice _ _ _, .slice _ _ _, .slice _ _ _, .slice _ _ _], .int .i64 _]) rfl rfl rfl (wCauses _ _ _ _ _ _ _ _ h9 R9) ?_
 rintro _ h10 E10 ⟨_, rfl, B10, d10, rfl, S10⟩
 refine qB (qK (v:=.tuple #[.slice _ _ _, .int .i64 _]) rfl) ?_
 refine qB (wL (v:=.slice _ _ _) rfl) ?_
 refine qB (wL (v:=.int .i64 _) rfl) ?_
 refine asS rfl ?_
 refine asI rfl ?_
 refine qC (qA rfl ?_)
 refine mvI rfl ?_
 refine pvB rfl ?_
 refine mvB rfl ?_
 refine qF rfl rfl ?_
 refine mvI rfl ?_
 refine qF rfl rfl ?_
 refine pvB rfl ?_
 refine qB (wN rfl rfl (v:=.bool _) rfl) ?_
 refine mvB rfl ?_
 refine qF rfl rfl ?_
 refine mvI rfl ?_
 refine qF rfl rfl ?_
 refine pvB rfl ?_
 refine qB (wN rfl rfl (v:=.bool _) rfl) ?_
 refine mvB rfl ?_
 refine qF rfl rfl ?_
 refine mvI rfl ?_
 refine qF rfl rfl ?_
 refine pvB rfl ?_
 refine qB (wN rfl rfl (v:=.bool _) rfl) ?_
 refine mvB rfl ?_
 refine qF rfl rfl ?_
 refine mvI rfl ?_
 refine qF rfl rfl ?_
 refine pvB rfl ?_
 refine qB (wN rfl rfl (v:=.bool _) rfl) ?_
 refine mvB rfl ?_
 refine qF rfl rfl ?_
 refine mvI rfl ?_
 refine qF rfl rfl ?_
 refine pvB rfl ?_
 refine qB (wN rfl rfl (v:=.bool _) rfl) ?_
 refine mvB rfl ?_
 refine qF rfl rfl ?_
 refine mvS rfl ?_
 refine qF rfl rfl ?_
 refine wG (zc:=[_]) (vs:=[(0, .int .i64 _), (1, .int .i64 _), (2, .int .i64 _)]) (cs:=[_, _, _]) rfl rfl rfl rfl rfl rfl rfl fun b60 hb60 => ?_
 refine qH [_] rfl ?_
 refine qF rfl rfl ?_
 refine wp_pub 0 rfl rfl ?_
 intro g1 F1 p1
 refine qH [_] rfl ?_
 refine wI (caps:=[]) (vs:=[.slice _ _ _, .slice _ _ _]) rfl rfl rfl (sameInts_ok [1, 2, 3] [1, 2, 3] _ _ _ _ g1 (S2.ext (kX (kX (kX (kX (kX (kX (kX (kX E3 E4) E5) E6) E7) E8) E9) E10) F1)) (yG (enc:=intC) (m:=1) (l:=[1, 2, 3]) (fun _ _ => rfl) p1) (by decide)) ?_
 rintro _ g2 F2 rfl
 refine qB (wN rfl rfl (v:=.bool _) rfl) ?_
 refine mvB rfl ?_
 refine qF rfl rfl ?_
 refine mvS rfl ?_
 refine qF rfl rfl ?_
 refine wG (zc:=[_]) (vs:=[(0, .int .i64 _), (1, .int .i64 _)]) (cs:=[_, _]) rfl rfl rfl rfl rfl rfl rfl fun b65 hb65 => ?_
 refine qH [_, _] rfl ?_
 refine qF rfl rfl ?_
 refine wp_pub 1 rfl rfl ?_
 intro g3 F3 p3
 refine qH [_, _] rfl ?_
 refine wI (caps:=[]) (vs:=[.slice _ _ _, .slice _ _ _]) rfl rfl rfl (sameInts_ok [1, 3] [1, 3] _ _ _ _ g3 (S4.ext (kX (kX (kX (kX (kX (kX (kX (kX E5 E6) E7) E8) E9) E10) F1) F2) F3)) (yG (enc:=intC) (m:=1) (l:=[1, 3]) (fun _ _ => rfl) p3) (by decide)) ?_
 rintro _ g4 F4 rfl
 refine qB (wN rfl rfl (v:=.bool _) rfl) ?_
 refine mvB rfl ?_
 refine qF rfl rfl ?_
 refine mvS rfl ?_
 refine qF rfl rfl ?_
 refine wG (zc:=[_]) (vs:=[(0, .int .i64 _), (1, .int .i64 _)]) (cs:=[_, _]) rfl rfl rfl rfl rfl rfl rfl fun b70 hb70 => ?_
 refine qH [_, _, _] rfl ?_
 refine qF rfl rfl ?_
 refine wp_pub 2 rfl rfl ?_
 intro g5 F5 p5
 refine qH [_, _, _] rfl ?_
 refine wI (caps:=[]) (vs:=[.slice _ _ _, .slice _ _ _]) rfl rfl rfl (sameInts_ok [1, 2] [1, 2] _ _ _ _ g5 (S6.ext (kX (kX (kX (kX (kX (kX (kX (kX E7 E8) E9) E10) F1) F2) F3) F4) F5)) (yG (enc:=intC) (m:=1) (l:=[1, 2]) (fun _ _ => rfl) p5) (by decide)) ?_
 rintro _ g6 F6 rfl
 refine qB (wN rfl rfl (v:=.bool _) rfl) ?_
 refine mvB rfl ?_
 refine qF rfl rfl ?_
 refine mvS rfl ?_
 refine qF rfl rfl ?_
 refine wG (zc:=[_]) (vs:=[(0, .int .i64 _), (1, .int .i64 _), (2, .int .i64 _)]) (cs:=[_, _, _]) rfl rfl rfl rfl rfl rfl rfl fun b75 hb75 => ?_
 refine qH [_, _, _, _] rfl ?_
 refine qF rfl rfl ?_
 refine wp_pub 3 rfl rfl ?_
 intro g7 F7 p7
 refine qH [_, _, _, _] rfl ?_
 refine wI (caps:=[]) (vs:=[.slice _ _ _, .slice _ _ _]) rfl rfl rfl (sameInts_ok [3, 3, 2] [3, 3, 2] _ _ _ _ g7 (S10.ext (kX (kX (kX (kX (kX (kX F1 F2) F3) F4) F5) F6) F7)) (yG (enc:=intC) (m:=1) (l:=[3, 3, 2]) (fun _ _ => rfl) p7) (by decide)) ?_
 rintro _ g8 F8 rfl
 refine qB (wN rfl rfl (v:=.bool _) rfl) ?_
 refine asB rfl ?_
 refine qQ ?_
 refine qJ (vs:=[_]) Tryz.results6 ⟨qG rfl rfl, trivial⟩ fun V => ?_
 exact ⟨(kX (kX (kX (kX (kX (kX (kX (kX (kX (kX (kX (kX (kX (kX (kX (kX (kX (kX E1 E2) E3) E4) E5) E6) E7) E8) E9) E10) F1) F2) F3) F4) F5) F6) F7) F8) (qN V)), rfl⟩
end Go.Proofs.YtboigjfgpppeaaaGreatDoor
namespace Go.Rd
def dig (k : Nat) : UInt8 := UInt8.ofNat (48 + k)
def natL (n : Nat) : List UInt8 := if n < 10 then [dig n] else if n < 100 then [dig (n / 10), dig (n % 10)] else [dig (n / 100), dig (n / 10 % 10), dig (n % 10)]
def itoaL (n : Int) : List UInt8 := if n < 0 then 45 :: natL n.natAbs else natL n.toNat
def digitsL : List UInt8 := [48, 49, 50, 51, 52, 53, 54, 55, 56, 57, 97, 98, 99, 100, 101, 102, 103, 104, 105, 106, 107, 108, 109, 110, 111, 112, 113, 114, 115, 116, 117, 118, 119, 120, 121, 122]
def smallsL : List UInt8 := (List.range 100).flatMap fun k => [dig (k / 10), dig (k % 10)]
theorem digits_cut : ∀ i, i < 10 → (digitsL.take (i + 1)).drop i = natL i := by decide +kernel
theorem smalls_cut : ∀ i, i < 100 → 10 ≤ i → (smallsL.take (i * 2 + 2)).drop (i * 2) = natL i := by decide +kernel
theorem smalls_len : smallsL.length = 200 := by decide +kernel
theorem natL_len {n : Nat} : (natL n).length ≤ 3 := by
 unfold natL
 split
 ·exact Nat.le_add_left 1 2
 split
 ·exact Nat.le_add_left 2 1
 exact Nat.le_refl 3
theorem vA {n : Int} : (itoaL n).length ≤ 4 := by
 unfold itoaL
 split
 ·exact Nat.succ_le_succ natL_len
 exact Nat.le_trans natL_len (by decide)
end Go.Rd
namespace Go.Proofs.YtboigjfgpppeaaaGreatDoor
open Go Go.HL Go.Proofs Go.Wx Go.Rd
section
variable [Lvl]
set_option maxRecDepth 100000
theorem small_ok (n : Nat) (h : AH) (hn : n < 100) : FnT Tryz.prog 97 #[.int .i64 (n : Int)] h (fun v _ => v = .string (bs (natL n))) := by
 refine qW Tryz.func97 rfl Tryz.ntmps97 rfl ?_
 refine qC (qA rfl ?_)
 refine asT rfl ?_
 refine qC (qC (qA rfl ?_))
 refine mvI rfl ?_
 refine pvB rfl ?_
 refine qP rfl (fun hc => ?_) (fun hc => ?_)
 ·skip
  have hc' : n < 10 := by have := of_decide_eq_true hc; omega
  refine qC (qA rfl ?_)
  refine mvI rfl ?_
  refine mvI rfl ?_
  refine qB (qO rfl (by omega)) ?_
  refine qB (yA (a:=digitsL) n (n + 1) rfl rfl (.inr ⟨_, _, rfl, rfl⟩) (.inr ⟨_, _, rfl, by push_cast; rfl⟩) (by omega) (by show n + 1 ≤ 36; omega)) ?_
  refine asT rfl ?_
  refine qQ ?_
  refine qJ (vs:=[_]) Tryz.results97 ⟨qG rfl rfl, trivial⟩ fun V => ?_
  exact ⟨(qN V), strE (digits_cut n hc')⟩
 skip
 have hc' : ¬ n < 10 := by have := of_decide_eq_false hc; omega
 refine qM ?_
 refine qC (qA rfl ?_)
 refine mvI rfl ?_
 refine qB (qO rfl (by omega)) ?_
 refine mvI rfl ?_
 refine qB (qO rfl (by omega)) ?_
 refine qB (qO rfl (by omega)) ?_
 refine qB (yA (a:=smallsL) (n * 2) (n * 2 + 2) rfl rfl (.inr ⟨_, _, rfl, by push_cast; rfl⟩) (.inr ⟨_, _, rfl, by push_cast; rfl⟩) (by omega) (by rw [smalls_len]; omega)) ?_
 refine asT rfl ?_
 refine qQ ?_
 refine qJ (vs:=[_]) Tryz.results97 ⟨qG rfl rfl, trivial⟩ fun V => ?_
 exact ⟨(qN V), strE (smalls_cut n hn (by omega))⟩
def Pow (h : AH) : Prop := Rd h (some ⟨0, 0, none⟩) ((List.range 4).map fun i => Value.int .u64 ((10 ^ i : Nat) : Int))
theorem Pow.ext {h h' : AH} (p : Pow h) (E : Ext h h') : Pow h' := Rd.ext p E
end
end Go.Proofs.YtboigjfgpppeaaaGreatDoor
namespace Go.HL
open Go Go.Wx
def cntB (c : UInt8) (l : List UInt8) : Nat := l.foldl (fun n x => if x == c then n + 1 else n) 0
def idxO (c : UInt8) (l : List UInt8) : Option Nat := (List.range l.length).find? fun i => l.getD i 0 == c
def idxI (c : UInt8) (l : List UInt8) : Int := match idxO c l with | some i => i | none => -1
def splitL (c : UInt8) : List UInt8 → List (List UInt8)
 | [] => [[]]
 | b :: l => if b == c then [] :: splitL c l else match splitL c l with | [] => [[b]] | x :: xs => (b :: x) :: xs
theorem splitL_cons (c b : UInt8) (l : List UInt8) : splitL c (b :: l) = if b == c then [] :: splitL c l else match splitL c l with | [] => [[b]] | x :: xs => (b :: x) :: xs := by
 conv => lhs; unfold splitL
theorem kN (c : UInt8) : ∀ l, splitL c l ≠ []
 | [] => by simp [splitL]
 | b :: l => by
  unfold splitL
  split
  ·simp
  split <;> simp
theorem idxO_some {c : UInt8} {l : List UInt8} {i : Nat} (h : idxO c l = some i) : i < l.length ∧ l.getD i 0 = c ∧ ∀ j, j < i → l.getD j 0 ≠ c := by
 unfold idxO at h
 obtain ⟨h1, a, b, h2, h3⟩ := List.find?_eq_some_iff_append.1 h
 have hi : i ∈ List.range l.length := by rw [h2]; simp
 have hl := List.mem_range.1 hi
 refine ⟨hl, by simpa using h1, fun j hj => ?_⟩
 have ha : a.length = i := by
  have e : (List.range l.length)[a.length]? = some i := by rw [h2]; simp
  obtain ⟨_, e2⟩ := List.getElem?_eq_some_iff.1 e
  simpa using e2
 have hja : j ∈ a := by
  have e : (List.range l.length)[j]? = some j := by rw [List.getElem?_range (by omega)]
  rw [h2, List.getElem?_append_left (by omega)] at e
  exact List.mem_of_getElem? e
 have := h3 j hja
 simpa using this
theorem idxO_none {c : UInt8} {l : List UInt8} (h : idxO c l = none) : c ∉ l := by
 unfold idxO at h
 rw [List.find?_eq_none] at h
 intro hc
 obtain ⟨i, hi, e⟩ := List.mem_iff_getElem.1 hc
 have := h i (List.mem_range.2 hi)
 rw [List.getD_eq_getElem?_getD, List.getElem?_eq_getElem hi, e] at this
 simp at this
theorem splitL_no {c : UInt8} : ∀ {l : List UInt8}, c ∉ l → splitL c l = [l]
 | [], _ => rfl
 | b :: l, h => by
  have hb : (b == c) = false := by
   cases e : b == c with
   | false => rfl
   | true => exact absurd (by rw [← (by simpa using e : b = c)]; exact List.mem_cons_self ..) h
  rw [splitL_cons]
  rw [hb, splitL_no fun hc => h (List.mem_cons_of_mem _ hc)]
  rfl
theorem splitL_app {c : UInt8} : ∀ {a : List UInt8} (l : List UInt8), c ∉ a → splitL c (a ++ c :: l) = a :: splitL c l
 | [], l, _ => by
  show splitL c (c :: l) = _
  rw [splitL_cons]
  rw [if_pos (by simp)]
 | b :: a, l, h => by
  have hb : (b == c) = false := by
   cases e : b == c with
   | false => rfl
   | true => exact absurd (by rw [← (by simpa using e : b = c)]; exact List.mem_cons_self ..) h
  rw [List.cons_append]
  rw [splitL_cons]
  rw [hb, splitL_app l fun hc => h (List.mem_cons_of_mem _ hc)]
  rfl
theorem splitL_at {c : UInt8} {l : List UInt8} {i : Nat} (h : idxO c l = some i) : splitL c l = l.take i :: splitL c (l.drop (i + 1)) := by
 obtain ⟨h1, h2, h3⟩ := idxO_some h
 have e : l = l.take i ++ c :: l.drop (i + 1) := by
  have hd := List.drop_eq_getElem_cons h1
  have hg : l[i] = c := by rw [← h2, List.getD_eq_getElem?_getD, List.getElem?_eq_getElem h1]; rfl
  rw [← hg, ← hd, List.take_append_drop]
 have hn : c ∉ l.take i := by
  intro hc
  obtain ⟨j, hj, e2⟩ := List.mem_iff_getElem.1 hc
  rw [List.length_take] at hj
  refine h3 j (by omega) ?_
  rw [List.getElem_take] at e2
  rw [List.getD_eq_getElem?_getD, List.getElem?_eq_getElem (by omega), e2]
  rfl
 conv => lhs; rw [e]
 exact splitL_app _ hn
theorem cnt_acc (c : UInt8) : ∀ (l : List UInt8) (n : Nat), l.foldl (fun n x => if x == c then n + 1 else n) n = n + cntB c l
 | [], n => rfl
 | b :: l, n => by
  unfold cntB
  rw [List.foldl_cons, List.foldl_cons, cnt_acc c l, cnt_acc c l]
  split <;> omega
theorem yX (c : UInt8) : ∀ l : List UInt8, (splitL c l).length = cntB c l + 1
 | [] => rfl
 | b :: l => by
  have ih := yX c l
  have e : cntB c (b :: l) = (if b == c then 1 else 0) + cntB c l := by
   show (b :: l).foldl _ 0 = _
   rw [List.foldl_cons, cnt_acc]
  rw [splitL_cons]
  rw [e]
  split
  ·rw [List.length_cons, ih]; omega
  cases h : splitL c l with
  | nil => exact absurd h (kN c l)
  | cons x xs => rw [h, List.length_cons] at ih; rw [List.length_cons]; omega
theorem cnt_drop {c : UInt8} {l : List UInt8} {i : Nat} (h : idxO c l = some i) : cntB c l = cntB c (l.drop (i + 1)) + 1 := by
 have h1 := yX c l
 rw [splitL_at h, List.length_cons, yX] at h1
 omega
theorem bs_fold {β : Type} (f : β → UInt8 → β) (l : List UInt8) (b : β) : (bs l).foldl f b = l.foldl f b := by
 have key : ∀ (i j : Nat) (b : β) (hh : l.length ≤ (bs l).size), i + j = l.length → ByteArray.foldlM.loop (m:=_root_.Id) (fun b x => pure (f b x)) (bs l) l.length hh i j b = (l.drop j).foldl f b := by
  intro i
  induction i with
  | zero =>
   intro j b hh h
   unfold ByteArray.foldlM.loop
   rw [dif_neg (by omega), List.drop_eq_nil_of_le (by omega)]
   rfl
  | succ i ih =>
   intro j b hh h
   have hj : j < l.length := by omega
   unfold ByteArray.foldlM.loop
   rw [dif_pos hj, List.drop_eq_getElem_cons hj, List.foldl_cons]
   exact ih (j + 1) (f b l[j]) hh (by omega)
 have := key l.length 0 b (Nat.le_refl _) (by omega)
 rw [List.drop_zero] at this
 unfold ByteArray.foldl ByteArray.foldlM
 rw [dif_pos (Nat.le_refl _)]
 exact this
variable [Lvl]
theorem count_pev {P : Program} (l : List UInt8) (c : UInt8) : pev P (Extern.BytealgCount.count #[.string (bs l), .int .u8 c.toNat]) = some (.int .i64 (cntB c l)) := by
 have e : (Int.toNat (c.toNat : Int)).toUInt8 = c := by rw [Int.toNat_natCast]; exact UInt8.ofNat_toNat
 unfold Extern.BytealgCount.count
 refine (wH (a:=bs l) rfl).trans ?_
 refine (wH (a:=c) (by show some _ = _; rw [e])).trans ?_
 rw [bs_fold]
 have key : ∀ (l : List UInt8) (n : Nat), l.foldl (fun (n : Int) x => if x == c then n + 1 else n) (n : Int) = ((n + cntB c l : Nat) : Int) := by
  intro l
  induction l with
  | nil => intro n; rfl
  | cons b l ih =>
   intro n
   have e2 : cntB c (b :: l) = (if b == c then 1 else 0) + cntB c l := by
    show (b :: l).foldl _ 0 = _
    rw [List.foldl_cons, cnt_acc]
   rw [List.foldl_cons, e2]
   cases b == c
   ·have := ih n
    rw [if_neg (by decide), if_neg (by decide), this, Nat.zero_add]
   have := ih (n + 1)
   rw [if_pos rfl, if_pos rfl, ← Nat.add_assoc]
   exact this
 have := key l 0
 rw [Nat.zero_add] at this
 exact congrArg (fun z => some (Value.int .i64 z)) this
theorem index_pev {P : Program} (l : List UInt8) (c : UInt8) : pev P (Extern.BytealgIndexByte.indexByte #[.string (bs l), .int .u8 c.toNat]) = some (.int .i64 (idxI c l)) := by
 have e : (Int.toNat (c.toNat : Int)).toUInt8 = c := by rw [Int.toNat_natCast]; exact UInt8.ofNat_toNat
 have hp : (fun i : Nat => (bs l)[i]! == c) = fun i => l.getD i 0 == c := by
  funext i
  have : (bs l)[i]! = l.getD i 0 := by
   by_cases hl : i < l.length
   ·rw [getElem!_pos (bs l) i hl, List.getD_eq_getElem?_getD, List.getElem?_eq_getElem hl]
    rfl
   rw [getElem!_neg (bs l) i hl, List.getD_eq_getElem?_getD, List.getElem?_eq_none (by omega)]
   rfl
  rw [this]
 unfold Extern.BytealgIndexByte.indexByte
 refine (wH (a:=bs l) rfl).trans ?_
 refine (wH (a:=c) (by show some _ = _; rw [e])).trans ?_
 have e2 : ((List.range (bs l).size).find? fun i => (bs l)[i]! == c) = idxO c l := by
  rw [hp]
  rfl
 rw [e2]
 unfold idxI
 cases idxO c l <;> rfl
section
variable {P : Program} {n : Nat} {ops : Array Oper} {os : List Oper} {K : Sl → Pv → AH → Prop} {E : Value → Sl → Pv → AH → Prop} {S : Sl} {L : Pv} {h : AH} {d : Option Tmp} {ty : TypeId} {ps : String} {af : Array Edge}
theorem op_extern {x : Operand} {xs : List Operand} {ats : Array TypeId} {g : FuncId} {fn : Func} {e : Array Value → Sem Value} {vs : List Value} {v : Value} (hf : ev n S x = .func (.func g) #[] #[]) (hg : P.funcs[g]? = some fn) (hname : (fn.name == "runtime.NumGoroutine") = false) (hb : fn.body.isNone = true)
  (hn : Extern.findNext fn = none) (he : Extern.find fn = some e) (hx : xs.map (ev n S) = vs) (hp : pev P (e vs.toArray) = some v)
  (kk : wpL P n ops os K E (put S d v) L h) : wpL P n ops (⟨d, .call ⟨.value x, xs.toArray, ats⟩, ty, ps, af, none⟩ :: os) K E S L h := by
 refine yJ fun V => ?_
 unfold opW
 rw [exec_call (caps:=[]) (vs:=vs) (by simpa using hf) (by rw [List.append_nil]; exact hx)]
 show dem P (match P.funcs[g]? with | none => _ | some fn => _) _ _ _
 rw [hg]
 simp only [hname, hb, Bool.false_eq_true, if_false, if_true]
 refine ⟨rfl, ?_⟩
 simp only [hn, he]
 show dem P (e vs.toArray >>= fun v => pure (Next.value v)) _ _ _
 refine wE (dem_pev hp ?_)
 exact ⟨L, h, rfl, V, kk⟩
end
end Go.HL
namespace Go.Rd
open Go.HL
set_option linter.all false
theorem u8_all {p : UInt8 → Prop} (h : ∀ n, n < 256 → p (UInt8.ofNat n)) (c : UInt8) : p c := by
 have := h c.toNat c.toNat_lt
 rwa [UInt8.ofNat_toNat] at this
def dv (c : UInt8) : Nat := (c - 48).toNat
def isD (c : UInt8) : Bool := Nat.ble (dv c) 9
theorem dig_dv {c : UInt8} : isD c = true → dig (dv c) = c := u8_all (p:=fun c => isD c = true → dig (dv c) = c) (by decide +kernel) c
theorem dv_le {c : UInt8} (h : isD c = true) : dv c ≤ 9 := Nat.le_of_ble_eq_true h
theorem dv_lt (c : UInt8) : dv c < 256 := (c - 48).toNat_lt
theorem dv_pos {c : UInt8} (h : isD c = true) (h0 : c ≠ 48) : 1 ≤ dv c := u8_all (p:=fun c => isD c = true → c ≠ 48 → 1 ≤ dv c) (by decide +kernel) c h h0
theorem isD_no {c : UInt8} (h : isD c = true) : c ≠ 45 ∧ c ≠ 43 ∧ c ≠ 47 ∧ c ≠ 10 ∧ c ≠ 32 := u8_all (p:=fun c => isD c = true → c ≠ 45 ∧ c ≠ 43 ∧ c ≠ 47 ∧ c ≠ 10 ∧ c ≠ 32) (by decide +kernel) c h
def digsV : List UInt8 → Nat → Option Nat
 | [], n => some n
 | c :: l, n => if isD c then digsV l (n * 10 + dv c) else none
theorem digsV_cons (c : UInt8) (l : List UInt8) (n : Nat) : digsV (c :: l) n = if isD c then digsV l (n * 10 + dv c) else none := rfl
theorem digsV_lt : ∀ (l : List UInt8) (n m : Nat), digsV l n = some m → m < (n + 1) * 10 ^ l.length
 | [], n, m, h => by simp [digsV] at h; subst h; simp
 | c :: l, n, m, h => by
  rw [digsV_cons] at h
  split at h
  ·rename_i hc
   have h1 := digsV_lt l _ m h
   have h2 := dv_le hc
   have h3 : (n * 10 + dv c + 1) * 10 ^ l.length ≤ ((n + 1) * 10) * 10 ^ l.length := Nat.mul_le_mul_right _ (by omega)
   rw [List.length_cons, Nat.pow_succ, Nat.mul_comm (10 ^ l.length) 10, ← Nat.mul_assoc]
   omega
  cases h
theorem digsV_isD : ∀ (l : List UInt8) (n m : Nat), digsV l n = some m → ∀ c ∈ l, isD c = true
 | [], _, _, _, _, h => absurd h List.not_mem_nil
 | c :: l, n, m, h, x, hx => by
  rw [digsV_cons] at h
  split at h
  ·rename_i hc
   rcases List.mem_cons.1 hx with rfl | hx
   ·exact hc
   exact digsV_isD l _ m h x hx
  cases h
def atoiF : List UInt8 → Option Int
 | [] => none
 | c :: l => if c = 45 ∨ c = 43 then (if l = [] then none else (digsV l 0).map fun n : Nat => if c = 45 then -(n : Int) else (n : Int)) else (digsV (c :: l) 0).map fun n : Nat => (n : Int)
theorem vV (c : UInt8) (l : List UInt8) : atoiF (c :: l) = if c = 45 ∨ c = 43 then (if l = [] then none else (digsV l 0).map fun n : Nat => if c = 45 then -(n : Int) else (n : Int)) else (digsV (c :: l) 0).map fun n : Nat => (n : Int) := rfl
def numR (w : List UInt8) : Option Nat := if w.length < 1 ∨ w.length > 3 ∨ (w.head? = some 48 ∧ w.length > 1) then none else digsV w 0
theorem natL_all : ∀ k, k < 1000 → digsV (natL k) 0 = some k ∧ 1 ≤ (natL k).length ∧ ((natL k).head? = some 48 → (natL k).length = 1 ∧ k = 0) := by decide +kernel
theorem numR_natL {k : Nat} (h : k < 1000) : numR (natL k) = some k := by
 obtain ⟨h1, h2, h3⟩ := natL_all k h
 have h4 := natL_len (n:=k)
 unfold numR
 rw [if_neg, h1]
 rintro (h5 | h5 | ⟨h5, h6⟩)
 ·omega
 ·omega
 have := (h3 h5).1; omega
theorem natL_isD {k : Nat} (h : k < 1000) : ∀ c ∈ natL k, isD c = true := digsV_isD _ _ _ (natL_all k h).1
theorem natL_of {w : List UInt8} {n : Nat} (h : numR w = some n) : natL n = w ∧ n < 1000 := by
 unfold numR at h
 split at h
 ·cases h
 rename_i hc
 have hD := digsV_isD _ _ _ h
 rcases w with _ | ⟨a, _ | ⟨b, _ | ⟨c, _ | ⟨d, w⟩⟩⟩⟩
 ·simp at hc
 ·have ha := hD a (by simp)
  have la := dv_le ha
  simp only [digsV, ha, if_true, Option.some.injEq] at h
  have hn : n = dv a := by omega
  subst hn
  refine ⟨?_, by omega⟩
  unfold natL
  rw [if_pos (by omega), dig_dv ha]
 ·have ha := hD a (by simp)
  have hb := hD b (by simp)
  have la := dv_le ha
  have lb := dv_le hb
  have h48 : a ≠ 48 := fun e => hc (.inr (.inr ⟨by simp [e], by simp⟩))
  have pa := dv_pos ha h48
  simp only [digsV, ha, hb, if_true, Option.some.injEq] at h
  have e1 : n / 10 = dv a := by omega
  have e2 : n % 10 = dv b := by omega
  refine ⟨?_, by omega⟩
  unfold natL
  rw [if_neg (by omega), if_pos (by omega), e1, e2, dig_dv ha, dig_dv hb]
 ·have ha := hD a (by simp)
  have hb := hD b (by simp)
  have hcc := hD c (by simp)
  have la := dv_le ha
  have lb := dv_le hb
  have lc := dv_le hcc
  have h48 : a ≠ 48 := fun e => hc (.inr (.inr ⟨by simp [e], by simp⟩))
  have pa := dv_pos ha h48
  simp only [digsV, ha, hb, hcc, if_true, Option.some.injEq] at h
  have e1 : n / 100 = dv a := by omega
  have e2 : n / 10 % 10 = dv b := by omega
  have e3 : n % 10 = dv c := by omega
  refine ⟨?_, by omega⟩
  unfold natL
  rw [if_neg (by omega), if_neg (by omega), e1, e2, e3, dig_dv ha, dig_dv hb, dig_dv hcc]
 exfalso
 apply hc
 refine .inr (.inl ?_)
 simp
theorem atoi_abs {w : List UInt8} {n : Int} (h : atoiF w = some n) : n.natAbs < 10 ^ w.length := by
 cases w with
 | nil => cases h
 | cons c l =>
  rw [vV] at h
  split at h
  ·split at h
   ·cases h
   obtain ⟨m, h1, h2⟩ := Option.map_eq_some_iff.1 h
   have h3 := digsV_lt _ _ _ h1
   rw [Nat.zero_add, Nat.one_mul] at h3
   have h4 : 10 ^ l.length ≤ 10 ^ (c :: l).length := Nat.pow_le_pow_right (by decide) (by simp)
   have h5 : n.natAbs = m := by subst h2; split <;> omega
   omega
  obtain ⟨m, h1, h2⟩ := Option.map_eq_some_iff.1 h
  have h3 := digsV_lt _ _ _ h1
  rw [Nat.zero_add, Nat.one_mul] at h3
  have h5 : n.natAbs = m := by omega
  omega
theorem atoi_digs {w : List UInt8} {k : Nat} (h : digsV w 0 = some k) (hw : w ≠ []) : atoiF w = some (k : Int) := by
 cases w with
 | nil => exact absurd rfl hw
 | cons c l =>
  have hc := digsV_isD _ _ _ h c (by simp)
  have hn := isD_no hc
  rw [vV]
  rw [if_neg (fun e => e.elim hn.1 hn.2.1), h]
  rfl
theorem itoaL_nat (k : Nat) : itoaL (k : Int) = natL k := by
 unfold itoaL
 rw [if_neg (by omega)]
 rfl
theorem itoaL_neg {k : Nat} (h : 1 ≤ k) : itoaL (-(k : Int)) = 45 :: natL k := by
 unfold itoaL
 rw [if_pos (by omega), Int.natAbs_neg]
 rfl
theorem of_numR {w : List UInt8} {k : Nat} (h : numR w = some k) : atoiF w = some (k : Int) ∧ w.length ≤ 3 ∧ itoaL k = w ∧ k < 1000 := by
 obtain ⟨h1, h2⟩ := natL_of h
 have h3 := natL_all k h2
 subst h1
 refine ⟨atoi_digs h3.1 (fun e => ?_), natL_len, itoaL_nat k, h2⟩
 have := h3.2.1
 rw [e] at this
 simp at this
def numS : List UInt8 → Option Int
 | [] => none
 | c :: r => if c = 45 then (if r.length < 1 ∨ r.length > 3 ∨ r.head? = some 48 then none else (digsV r 0).map fun n : Nat => -(n : Int)) else (numR (c :: r)).map fun n : Nat => (n : Int)
theorem numS_cons (c : UInt8) (r : List UInt8) : numS (c :: r) = if c = 45 then (if r.length < 1 ∨ r.length > 3 ∨ r.head? = some 48 then none else (digsV r 0).map fun n : Nat => -(n : Int)) else (numR (c :: r)).map fun n : Nat => (n : Int) := rfl
def trimP (w : List UInt8) : List UInt8 := if w.head? = some 45 then w.drop 1 else w
theorem numS_itoa {n : Int} (h : n.natAbs < 1000) : numS (itoaL n) = some n := by
 by_cases h0 : n < 0
 ·obtain ⟨k, hk, rfl⟩ : ∃ k : Nat, 1 ≤ k ∧ n = -(k : Int) := ⟨n.natAbs, by omega, by omega⟩
  rw [itoaL_neg hk]
  have hk2 : k < 1000 := by omega
  obtain ⟨h1, h2, h3⟩ := natL_all k hk2
  have h4 := natL_len (n:=k)
  rw [numS_cons, if_pos rfl, if_neg, h1]
  ·rfl
  rintro (h5 | h5 | h5)
  ·omega
  ·omega
  have := (h3 h5).2; omega
 obtain ⟨k, rfl⟩ : ∃ k : Nat, n = k := ⟨n.toNat, by omega⟩
 have hk2 : k < 1000 := by omega
 rw [itoaL_nat]
 obtain ⟨h1, h2, h3⟩ := natL_all k hk2
 have hr := numR_natL hk2
 have hd := natL_isD hk2
 clear h1 h3
 revert hr h2 hd
 cases natL k with
 | nil => intro h2 _ _; simp at h2
 | cons c r =>
  intro _ hr hd
  have := (isD_no (hd c (by simp))).1
  rw [numS_cons, if_neg this, hr]
  rfl
theorem numS_of {w : List UInt8} {n : Int} (h : atoiF w = some n) (hl : (trimP w).length ≤ 3) (hi : itoaL n = w) : numS w = some n := by
 rw [← hi]
 apply numS_itoa
 cases w with
 | nil => cases h
 | cons c l =>
  unfold trimP at hl
  by_cases hc : c = 45
  ·subst hc
   simp only [List.head?_cons, if_true, List.drop_succ_cons, List.drop_zero] at hl
   rw [vV] at h
   rw [if_pos (.inl rfl)] at h
   split at h
   ·cases h
   obtain ⟨m, h1, h2⟩ := Option.map_eq_some_iff.1 h
   have h3 := digsV_lt _ _ _ h1
   have h4 : 10 ^ l.length ≤ 10 ^ 3 := Nat.pow_le_pow_right (by decide) hl
   rw [Nat.zero_add, Nat.one_mul] at h3
   have h5 : n.natAbs = m := by rw [← h2, if_pos rfl]; omega
   omega
  rw [if_neg (by simpa using hc)] at hl
  have h1 := atoi_abs h
  have h2 : 10 ^ (c :: l).length ≤ 10 ^ 3 := Nat.pow_le_pow_right (by decide) hl
  omega
theorem of_numS {w : List UInt8} {n : Int} (h : numS w = some n) : atoiF w = some n ∧ (trimP w).length ≤ 3 ∧ itoaL n = w ∧ n.natAbs < 1000 := by
 cases w with
 | nil => cases h
 | cons c r =>
  rw [numS_cons] at h
  split at h
  ·rename_i hc
   subst hc
   split at h
   ·cases h
   rename_i hr
   obtain ⟨k, h1, h2⟩ := Option.map_eq_some_iff.1 h
   have hr1 : numR r = some k := by
    unfold numR
    rw [if_neg, h1]
    rintro (h5 | h5 | ⟨h5, _⟩)
    ·exact hr (.inl h5)
    ·exact hr (.inr (.inl h5))
    exact hr (.inr (.inr h5))
   obtain ⟨h3, h4⟩ := natL_of hr1
   have hk : 1 ≤ k := by
    rcases Nat.eq_zero_or_pos k with h0 | h0
    ·exfalso
     subst h0
     apply hr
     rw [← h3]
     exact .inr (.inr rfl)
    exact h0
   have hl := natL_len (n:=k)
   subst h2
   refine ⟨?_, ?_, ?_, by omega⟩
   ·rw [vV]
    rw [if_pos (.inl rfl), if_neg (by rintro rfl; simp at hr), h1]
    rfl
   ·show (if (some (45 : UInt8)) = some 45 then r else _).length ≤ 3
    rw [if_pos rfl, ← h3]
    exact hl
   rw [itoaL_neg hk, h3]
  rename_i hc
  obtain ⟨k, h1, h2⟩ := Option.map_eq_some_iff.1 h
  obtain ⟨a1, a2, a3, a4⟩ := of_numR h1
  subst h2
  refine ⟨a1, ?_, a3, by omega⟩
  unfold trimP
  rw [if_neg (by simpa using hc)]
  exact a2
def joinL (c : UInt8) : List (List UInt8) → List UInt8
 | [] => []
 | x :: r => x ++ r.flatMap fun y => c :: y
theorem joinL_cons {c b : UInt8} {x : List UInt8} {r : List (List UInt8)} : joinL c ((b :: x) :: r) = b :: joinL c (x :: r) := rfl
theorem join_split (c : UInt8) : ∀ t : List UInt8, joinL c (splitL c t) = t
 | [] => rfl
 | b :: t => by
  have ih := join_split c t
  unfold splitL
  split
  ·rename_i hb
   have hb' : b = c := by simpa using hb
   subst hb'
   cases h : splitL b t with
   | nil => exact absurd h (kN b t)
   | cons x xs =>
    rw [h] at ih
    show b :: joinL b (x :: xs) = _
    rw [ih]
  cases h : splitL c t with
  | nil => exact absurd h (kN c t)
  | cons x xs =>
   rw [h] at ih
   show joinL c ((b :: x) :: xs) = _
   rw [joinL_cons, ih]
end Go.Rd
namespace Go.HL
open Go Go.Wx Go.Rd
set_option linter.all false
theorem byC_map (l : List UInt8) : l.flatMap byC = l.map fun b => Value.int .u8 b.toNat := by
 induction l with
 | nil => rfl
 | cons b l ih => rw [List.flatMap_cons, ih]; rfl
theorem byC_len (l : List UInt8) : (l.flatMap byC).length = l.length := by rw [byC_map, List.length_map]
theorem bs_cells (l : List UInt8) : ((bs l).data.map fun b => Value.int .u8 b.toNat) = (l.flatMap byC).toArray := by
 rw [byC_map]
 show (List.toArray l).map _ = _
 rw [List.map_toArray]
theorem byC_plain (l : List UInt8) : (l.flatMap byC).all plainB = true := by
 rw [byC_map, List.all_map]
 exact List.all_eq_true.2 fun _ _ => rfl
theorem hupd_hupd {h : AH} {b : Nat} {o o' : Obj} : hupd (hupd h b o) b o' = hupd h b o' := by
 funext c
 simp only [hupd]
 split <;> rfl
theorem hupd_at {h : AH} {b : Nat} {o : Obj} : hupd h b o b = some o := by simp [hupd]
theorem cells_front {h : AH} {b : Nat} {cs junk : List Value} {e : TypeId} {f : Nat × Nat} (hb : h b = some (.cells (cs ++ junk).toArray e f)) : Cells h b 0 cs := by
 intro j u hu
 have hj := (List.getElem?_eq_some_iff.1 hu).1
 simp [cellA, hb, List.getElem?_append_left hj, hu]
theorem rd_front {h : AH} {b : Nat} {cs junk : List Value} {e : TypeId} {f : Nat × Nat} (hb : h b = some (.cells (cs ++ junk).toArray e f)) : Rd h (some ⟨b, 0, none⟩) cs := fun _ => ⟨b, 0, rfl, cells_front hb⟩
theorem dem_shape {P : Program} {β : Type} {b : Nat} {o : Obj} {h : AH} {f : Option (TypeId × Nat) → Sem β} {K : β → AH → Prop} {E : Value → AH → Prop} (hb : h b = some o) (k : dem P (f (shapeO o)) h K E) : dem P (shape b >>= f) h K E := wE ⟨o, hb, k⟩
theorem row_blk {α : Type} {enc : α → List Value} {m : Nat} {l : List α} (hl : ∀ x ∈ l, (enc x).length = m) {h : AH} {b : Nat} {t : TypeId} (hb : h b = some (.cells (l.flatMap enc).toArray t (0, 0))) : Row h m enc (some ⟨b, 0, none⟩) l :=
 ⟨hl, rd_front (junk:=[]) (by rw [List.append_nil]; exact hb)⟩
theorem rd_mid {h : AH} {b i : Nat} {pre cs junk : List Value} {e : TypeId} {f : Nat × Nat} (hb : h b = some (.cells (pre ++ (cs ++ junk)).toArray e f)) (hi : pre.length = i) : Rd h (some ⟨b, i, none⟩) cs := fun _ => ⟨b, i, rfl, fun j u hu => by
 subst hi
 have hj := (List.getElem?_eq_some_iff.1 hu).1
 have : (pre ++ (cs ++ junk))[pre.length + j]? = some u := by
  rw [List.getElem?_append_right (by omega), Nat.add_sub_cancel_left, List.getElem?_append_left hj, hu]
 simpa [cellA, hb] using this⟩
variable [Lvl]
theorem dem_loadBytes {P : Program} {h : AH} {K : ByteArray → AH → Prop} {E : Value → AH → Prop} : ∀ (l p : List UInt8) (b off : Nat), Cells h b off (l.flatMap byC) → K (bs (p ++ l)) h → dem P (loadBytes ⟨b, off, none⟩ (bs p) l.length) h K E
 | [], p, b, off, _, k => by rw [List.append_nil] at k; exact k
 | c :: l, p, b, off, hc, k => by
  show dem P (loadBytes ⟨b, off, none⟩ (bs p) (l.length + 1)) h K E
  unfold loadBytes
  refine wE ?_
  refine ⟨.int .u8 c.toNat, ?_, ?_⟩
  ·have := hc 0 (.int .u8 c.toNat) rfl
   rwa [Nat.add_zero] at this
  show dem P (loadBytes ((⟨b, off, none⟩ : Addr).add 1) ((bs p).push (Int.toNat (c.toNat : Int)).toUInt8) l.length) h K E
  have e : (bs p).push (Int.toNat (c.toNat : Int)).toUInt8 = bs (p ++ [c]) := by
   have : (Int.toNat (c.toNat : Int)).toUInt8 = c := by rw [Int.toNat_natCast]; exact UInt8.ofNat_toNat
   rw [this]
   apply ByteArray.ext
   show (Array.mk p).push c = _
   simp
  rw [e, vM]
  refine dem_loadBytes l (p ++ [c]) b (off + 1) ?_ (by rw [List.append_assoc]; exact k)
  intro j u hu
  have := hc (j + 1) u (by rw [byC_map] at hu ⊢; simpa using hu)
  rwa [show off + (j + 1) = off + 1 + j by omega] at this
variable [Lvl]
section
variable {P : Program} {n : Nat} {ops : Array Oper} {os : List Oper} {K : Sl → Pv → AH → Prop} {E : Value → Sl → Pv → AH → Prop} {S : Sl} {L : Pv} {h : AH} {d : Option Tmp} {ty : TypeId} {ps : String} {af : Array Edge}
theorem op_s2b {sT dT e : TypeId} {x : Operand} (l : List UInt8) (hx : ev n S x = .string (bs l)) (h1 : pev P (underlying sT) = some .string) (h2 : pev P (underlying dT) = some (.slice e)) (h3 : pev P (underlying e) = some (.int .u8))
  (kk : ∀ (b cap : Nat) (junk : List Value) (f : Nat × Nat), wl h L b = none → wpL P n ops os K E (put S d (.slice (some ⟨b, 0, none⟩) l.length cap)) (L ++ [some (b, .cells (l.flatMap byC ++ junk).toArray e f)]) h) : wpL P n ops (⟨d, .convert sT dT x, ty, ps, af, none⟩ :: os) K E S L h := by
 refine yJ fun V => ?_
 unfold opW
 simp only [execOp, hx]
 refine wE (wB h1 (wB h2 ?_))
 simp only
 refine wB h3 ?_
 simp only
 unfold Conv.stringToBytes
 refine wE ?_
 intro t
 show dem P _ _ _ _
 have er : ∀ k, ((bs l).data.map fun b => Value.int .u8 b.toNat) ++ Array.replicate k (Value.int .u8 0) = (l.flatMap byC ++ List.replicate k (Value.int .u8 0)).toArray := by
  intro k
  rw [bs_cells]
  simp
 simp only [er]
 refine wE (wE ?_)
 intro b hb
 show dem P (markStringish ⟨b, 0, none⟩ >>= _) _ _ _
 refine wE ?_
 unfold markStringish
 refine wE ?_
 refine ⟨_, hupd_at, ?_⟩
 show dem P (freeze _ 1) _ _ _
 refine ⟨by decide, _, _, hupd_at, ?_⟩
 rw [hupd_hupd]
 exact ⟨_, h, vR hb _, yT V hb _, kk b _ _ _ hb⟩
theorem op_copyS (i : Nat) {sT xT e e' : TypeId} {x y : Operand} {b dl dc : Nat} {l : List UInt8} {cs : List Value} (hx : ev n S x = .slice (some ⟨b, 0, none⟩) dl dc) (hy : ev n S y = .string (bs l)) (hi : L[i]? = some (some (b, .cells cs.toArray e' (0, 0)))) (hl : l.length = dl) (hc : cs.length = dl)
  (ht : pev P (underlying sT) = some (.slice e)) (hs : pev P (sizeOf e) = some 1)
  (kk : wpL P n ops os K E (put S d (.int .i64 dl)) (L.set i (some (b, .cells (l.flatMap byC).toArray e' (0, 0)))) h) : wpL P n ops (⟨d, .call ⟨.builtin .copy, #[x, y], #[sT, xT]⟩, ty, ps, af, none⟩ :: os) K E S L h := by
 refine yJ fun V => ?_
 unfold opW
 rw [yS (xs:=[x, y]) (vs:=[.slice (some ⟨b, 0, none⟩) dl dc, .string (bs l)]) (by simp [hx, hy])]
 refine wE ?_
 show dem P (Builtin.copy_ #[sT, xT] ty #[.slice (some ⟨b, 0, none⟩) dl dc, .string (bs l)]) _ _ _
 unfold Builtin.copy_
 refine wB ht ?_
 simp only
 refine wB (a:=l.length) rfl (wB hs ?_)
 have hk : Nat.min l.length dl = l.length := by rw [hl]; exact Nat.min_self _
 rw [hk]
 refine wB (a:=(l.flatMap byC).toArray) ?_ ?_
 ·show some (((bs l).extract 0 l.length).data.map fun b => Value.int .u8 b.toNat) = _
  rw [bs_ext, List.take_length, List.drop_zero, bs_cells]
 refine wE (dem_storeFrom (l.flatMap byC) _ cs.toArray 0 0 (zP V hi) (by rw [List.size_toArray, byC_len]; omega) (byC_plain l) ?_)
 rw [wl_set V hi, Nat.add_zero, wr_list, wrL_all (by rw [byC_len]; omega)]
 have e1 : (l.length : Nat) = dl := hl
 rw [e1]
 exact ⟨_, h, rfl, yZ V hi, kk⟩
theorem op_usS (i : Nat) {pT nT e e' : TypeId} {x y : Operand} {b : Nat} {q : IntKind} {k' : Int} (l : List UInt8) (hx : ev n S x = .pointer (some ⟨b, 0, none⟩)) (hy : ev n S y = .int q k') (ek : k' = l.length) (hi : L[i]? = some (some (b, .cells (l.flatMap byC).toArray e' (0, 0)))) (h0 : 0 < l.length) (h1 : l.length < 2 ^ 62)
  (ht : pev P (underlying pT) = some (.pointer e)) (hv : liesAt P P.depth e' (l.length / P.cellsOf e') 0 e l.length = true)
  (kk : wpL P n ops os K E (put S d (.string (bs l))) (L.set i (some (b, .cells (l.flatMap byC).toArray e' (0, 0 + l.length)))) h) : wpL P n ops (⟨d, .call ⟨.builtin .unsafeString, #[x, y], #[pT, nT]⟩, ty, ps, af, none⟩ :: os) K E S L h := by
 subst ek
 refine yJ fun V => ?_
 unfold opW
 rw [yS (xs:=[x, y]) (vs:=[.pointer (some ⟨b, 0, none⟩), .int q (l.length : Int)]) (by simp [hx, hy])]
 refine wE ?_
 show dem P (Builtin.unsafeString_ #[pT, nT] ty #[.pointer (some ⟨b, 0, none⟩), .int q (l.length : Int)]) _ _ _
 unfold Builtin.unsafeString_
 refine wB (s:=asInt (.int q (l.length : Int))) (a:=(l.length : Int)) rfl ?_
 show dem P (if (l.length : Int) < 0 then _ else _) _ _ _
 rw [if_neg (by omega), if_neg (show ¬ ((l.length : Int) > IntKind.i64.max) by show ¬ ((l.length : Int) > 9223372036854775807); omega)]
 show dem P (if (l.length : Int) = 0 then _ else _) _ _ _
 rw [if_neg (by omega)]
 have he : pev P (elemOf pT) = some e := (wH ht).trans rfl
 refine wB he ?_
 rw [Int.toNat_natCast]
 refine wE ?_
 show dem P (variablesAt ⟨b, 0, none⟩ e l.length) _ _ _
 unfold variablesAt
 refine wB (a:=P) rfl ?_
 refine dem_shape (zP V hi) ?_
 have hsz : (l.flatMap byC).toArray.size = l.length := by rw [List.size_toArray, byC_len]
 show dem P (pure (liesAt P P.depth e' ((l.flatMap byC).toArray.size / P.cellsOf e') 0 e l.length)) _ _ _
 rw [hsz, hv]
 have hcl : Cells (wl h L) b 0 (l.flatMap byC) := cells_front (junk:=[]) (by rw [List.append_nil]; exact zP V hi)
 show dem P (loadBytes ⟨b, 0, none⟩ (bs []) l.length >>= _) _ _ _
 refine wE (dem_loadBytes l [] b 0 hcl ?_)
 refine wE ?_
 show dem P (freeze ⟨b, 0, none⟩ l.length) _ _ _
 refine ⟨by omega, _, _, zP V hi, ?_⟩
 rw [wl_set V hi]
 exact ⟨_, h, rfl, yZ V hi, kk⟩
end
theorem range_one (z : Value) (k : Nat) : ((List.range (k * 1)).map fun i => [z][i % [z].length]!) = List.replicate k z := by
 apply List.ext_getElem
 ·simp
 intro i h1 h2
 simp [Nat.mod_one]
section
variable {P : Program} {n : Nat} {ops : Array Oper} {os : List Oper} {K : Sl → Pv → AH → Prop} {E : Value → Sl → Pv → AH → Prop} {S : Sl} {L : Pv} {h : AH} {d : Option Tmp} {ty : TypeId} {ps : String} {af : Array Edge}
theorem op_makeOne {t e : TypeId} {x y : Operand} {len : Nat} {len' cap' : Int} {q q' : IntKind} {z : Value} {inf : TypeInfo} (hx : ev n S x = .int q len') (hy : ev n S y = .int q' cap') (el : len' = len) (ec : cap' = len) (ht : pev P (underlying t) = some (.slice e)) (hi : pev P (typeInfo e) = some inf) (hs : pev P (sizeOf e) = some 1)
  (hz : pev P (zeroValue e) = some z) (hzc : z.cells = [z].toArray) (hcap : len < 2 ^ 30) (hby : Nat.ble inf.bytes 1024 = true)
  (k : ∀ b, wl h L b = none → wpL P n ops os K E (put S d (.slice (some ⟨b, 0, none⟩) len len)) (L ++ [some (b, .cells (List.replicate len z).toArray e (0, 0))]) h) : wpL P n ops (⟨d, .makeSlice t x y, ty, ps, af, none⟩ :: os) K E S L h := by
 refine op_makeSlice (len:=len) (cap:=len) hx hy el ec ht hi hs hz hzc (Nat.le_refl _) hcap hby fun b hb => ?_
 rw [range_one]
 exact k b hb
end
theorem wr_next {a : List Value} {z v : Value} {k j : Nat} (ha : a.length = k) : wrL (a ++ List.replicate (j + 1) z) (0 + (k : Int).toNat * 1) [v] = a ++ [v] ++ List.replicate j z := by
 subst ha
 simp [wrL, List.replicate_succ]
section
variable {P : Program} {n : Nat} {d : Option Tmp} {ty : TypeId} {ps : String} {af : Array Edge} {S : Sl}
theorem wrap_u8 {a : Int} (h : 0 ≤ a ∧ a < 256) : IntKind.wrap .u8 a = a := by
 show a % 256 = a
 omega
theorem vQ {a : Int} (h : 0 ≤ a ∧ a < 4294967296) : IntKind.wrap .u32 a = a := by
 show a % 4294967296 = a
 omega
theorem u8_sub (c k : UInt8) : IntKind.wrap .u8 ((c.toNat : Int) - (k.toNat : Int)) = ((c - k).toNat : Int) := by
 rw [UInt8.toNat_sub]
 have h1 := c.toNat_lt
 have h2 := k.toNat_lt
 show ((c.toNat : Int) - (k.toNat : Int)) % 256 = _
 omega
theorem pv_w {op : Op} {k : IntKind} {z r : Int} (hv : pev P (execOp (ev n S) ⟨d, op, ty, ps, af, none⟩) = some (.value (.int k (IntKind.wrap k z)))) (e : IntKind.wrap k z = r) : pev P (execOp (ev n S) ⟨d, op, ty, ps, af, none⟩) = some (.value (.int k r)) := by
 rw [e] at hv
 exact hv
theorem pv_remN {q : IntKind} {x y : Operand} {t u : TypeId} (a b : Nat) {a' b' : Int} (hx : ev n S x = .int q a') (hy : ev n S y = .int q b') (ea : a' = a) (eb : b' = b) (hb : 0 < b) : pev P (execOp (ev n S) ⟨d, .binOp .rem t x y u, ty, ps, af, none⟩) = some (.value (.int q ((a % b : Nat) : Int))) := by
 subst ea eb
 simp only [execOp, hx, hy]
 refine (wY (a:=.int q ((a % b : Nat) : Int)) ?_).trans rfl
 refine (wH (a:=()) rfl).trans ?_
 unfold binOp
 simp only [ne_eq, not_true_eq_false, if_false]
 unfold Op.intDiv
 rw [if_neg (by omega)]
 show some (Value.int q (Int.tmod a b)) = _
 rw [← Int.ofNat_tmod]
theorem pv_quoN {q : IntKind} {x y : Operand} {t u : TypeId} (a b : Nat) {a' b' : Int} (hx : ev n S x = .int q a') (hy : ev n S y = .int q b') (ea : a' = a) (eb : b' = b) (hb : 0 < b) (hw : q.wrap ((a / b : Nat) : Int) = ((a / b : Nat) : Int)) : pev P (execOp (ev n S) ⟨d, .binOp .quo t x y u, ty, ps, af, none⟩) = some (.value (.int q ((a / b : Nat) : Int))) := by
 subst ea eb
 simp only [execOp, hx, hy]
 refine (wY (a:=.int q ((a / b : Nat) : Int)) ?_).trans rfl
 refine (wH (a:=()) rfl).trans ?_
 unfold binOp
 simp only [ne_eq, not_true_eq_false, if_false]
 unfold Op.intDiv
 rw [if_neg (by omega)]
 show some (Value.int q (q.wrap (Int.tdiv a b))) = _
 rw [← Int.ofNat_tdiv, hw]
end
end Go.HL
namespace Go.HL
open Go
def strC (x : List UInt8) : List Value := [.string (bs x)]
theorem idxI_some {c : UInt8} {l : List UInt8} {i : Nat} (h : idxO c l = some i) : idxI c l = (i : Int) := by unfold idxI; rw [h]
theorem cnt_pos {c : UInt8} {l : List UInt8} (h : 0 < cntB c l) : ∃ i, idxO c l = some i := by
 cases e : idxO c l with
 | some i => exact ⟨i, rfl⟩
 | none =>
  have h1 := yX c l
  rw [splitL_no (idxO_none e)] at h1
  simp at h1
  omega
theorem cnt_le (c : UInt8) : ∀ l : List UInt8, cntB c l ≤ l.length
 | [] => Nat.le_refl _
 | b :: l => by
  have ih := cnt_le c l
  have e : cntB c (b :: l) = (if b == c then 1 else 0) + cntB c l := by
   show (b :: l).foldl _ 0 = _
   rw [List.foldl_cons, cnt_acc]
  rw [e, List.length_cons]
  split <;> omega
theorem idx_self (c : UInt8) : idxI c [c] = 0 := by
 have : idxO c [c] = some 0 := by
  unfold idxO
  show List.find? _ [0] = _
  simp
 rw [idxI_some this]
 rfl
end Go.HL
namespace Go.Proofs.YtboigjfgpppeaaaGreatDoor
open Go Go.HL Go.Proofs Go.Wx Go.Rd
section
variable [Lvl]
set_option maxRecDepth 100000
theorem IndexByte_ok (l : List UInt8) (c : UInt8) (h : AH) : FnT Tryz.prog 126 #[.string (bs l), .int .u8 c.toNat] h (fun v _ => v = .int .i64 (idxI c l)) := by
 refine qW Tryz.func126 rfl Tryz.ntmps126 rfl ?_
 refine qC (qA rfl ?_)
 refine asI rfl ?_
 refine qC (qA rfl ?_)
 refine mvT rfl ?_
 refine mvI rfl ?_
 refine op_extern (e:=Extern.BytealgIndexByte.indexByte) (vs:=[.string _, .int .u8 _]) rfl Tryz.func136 rfl rfl (by kernel_rfl) (by kernel_rfl) rfl (index_pev _ _) ?_
 refine asI rfl ?_
 refine qQ ?_
 refine qJ (vs:=[_]) Tryz.results126 ⟨qG rfl rfl, trivial⟩ fun V => ?_
 exact ⟨(qN V), rfl⟩
theorem sliteIndex_ok (l : List UInt8) (c : UInt8) (h : AH) (hl : l.length < 2 ^ 40) : FnT Tryz.prog 118 #[.string (bs l), .string (bs [c])] h (fun v _ => v = .int .i64 (idxI c l)) := by
 refine qW Tryz.func118 rfl Tryz.ntmps118 rfl ?_
 refine qC (qA rfl ?_)
 refine asI rfl ?_
 refine qC (qA rfl ?_)
 refine mvT rfl ?_
 refine qB (zA rfl rfl) ?_
 refine asI rfl ?_
 refine qC ?_
 refine qT ?_
 refine qC (qA rfl ?_)
 refine mvI rfl ?_
 refine pvB rfl ?_
 refine mvB rfl ?_
 refine qF rfl rfl ?_
 refine mvT rfl ?_
 refine qF rfl rfl ?_
 refine mvT rfl ?_
 refine qF rfl rfl ?_
 refine qB (yE rfl rfl) ?_
 refine qB (wM rfl rfl (v:=.bool _) rfl) ?_
 refine asB rfl ?_
 refine qP rfl (fun hs => ?_) (fun hs => ?_)
 ·skip
  have hs' : [c] = l := of_decide_eq_true hs
  refine qC (qA rfl ?_)
  refine asI rfl ?_
  refine qQ ?_
  refine qJ (vs:=[_]) Tryz.results118 ⟨qG rfl rfl, trivial⟩ fun V => ?_
  exact ⟨(qN V), by show Value.int .i64 0 = .int .i64 (idxI c l); rw [← hs', idx_self]⟩
 skip
 refine qC (qA rfl ?_)
 refine mvI rfl ?_
 refine pvB rfl ?_
 refine asB rfl ?_
 refine wW rfl (rfl) ?_
 refine qC (qA rfl ?_)
 refine mvT rfl ?_
 refine mvT rfl ?_
 refine qB (zY (c:=c) 0 rfl rfl rfl rfl rfl) ?_
 refine wI (caps:=[]) (vs:=[.string _, .int .u8 _]) rfl rfl rfl (IndexByte_ok l c h) ?_
 rintro _ h1 E1 rfl
 refine asI rfl ?_
 refine qQ ?_
 refine qJ (vs:=[_]) Tryz.results118 ⟨qG rfl rfl, trivial⟩ fun V => ?_
 exact ⟨(kX E1 (qN V)), rfl⟩
theorem Index_ok (l : List UInt8) (c : UInt8) (h : AH) (hl : l.length < 2 ^ 40) : FnT Tryz.prog 103 #[.string (bs l), .string (bs [c])] h (fun v _ => v = .int .i64 (idxI c l)) := by
 refine qW Tryz.func103 rfl Tryz.ntmps103 rfl ?_
 refine qC (qA rfl ?_)
 refine asI rfl ?_
 refine qC (qA rfl ?_)
 refine mvT rfl ?_
 refine mvT rfl ?_
 refine wI (caps:=[]) (vs:=[.string _, .string _]) rfl rfl rfl (sliteIndex_ok l c h hl) ?_
 rintro _ h1 E1 rfl
 refine asI rfl ?_
 refine qQ ?_
 refine qJ (vs:=[_]) Tryz.results103 ⟨qG rfl rfl, trivial⟩ fun V => ?_
 exact ⟨(kX E1 (qN V)), rfl⟩
theorem Count_ok (l : List UInt8) (c : UInt8) (h : AH) : FnT Tryz.prog 102 #[.string (bs l), .string (bs [c])] h (fun v _ => v = .int .i64 (cntB c l : Int)) := by
 refine qW Tryz.func102 rfl Tryz.ntmps102 rfl ?_
 refine qC (qA rfl ?_)
 refine asI rfl ?_
 refine qC (qC (qA rfl ?_))
 refine mvT rfl ?_
 refine qB (zA rfl rfl) ?_
 refine pvB rfl ?_
 refine wS rfl (rfl) ?_
 refine qM ?_
 refine qC (qC (qA rfl ?_))
 refine mvT rfl ?_
 refine qB (zA rfl rfl) ?_
 refine pvB rfl ?_
 refine wW rfl (rfl) ?_
 refine qC (qA rfl ?_)
 refine mvT rfl ?_
 refine mvT rfl ?_
 refine qB (zY (c:=c) 0 rfl rfl rfl rfl rfl) ?_
 refine op_extern (e:=Extern.BytealgCount.count) (vs:=[.string _, .int .u8 _]) rfl Tryz.func117 rfl rfl (by kernel_rfl) (by kernel_rfl) rfl (count_pev _ _) ?_
 refine asI rfl ?_
 refine qQ ?_
 refine qJ (vs:=[_]) Tryz.results102 ⟨qG rfl rfl, trivial⟩ fun V => ?_
 exact ⟨(qN V), rfl⟩
theorem genSplit_ok (l : List UInt8) (c : UInt8) (h : AH) (hl : l.length < 2 ^ 20) : FnT Tryz.prog 90 #[.string (bs l), .string (bs [c]), .int .i64 0, .int .i64 (-1)] h (fun v h' => ∃ A cap, v = .slice A (splitL c l).length cap ∧ Row h' 1 strC A (splitL c l) ∧ (splitL c l).length ≤ cap) := by
 have hcl := cnt_le c l
 have hsl := yX c l
 refine qW Tryz.func90 rfl Tryz.ntmps90 rfl ?_
 refine qC (qA rfl ?_)
 refine asS rfl ?_
 refine qC (qC (qA rfl ?_))
 refine mvI rfl ?_
 refine pvB rfl ?_
 refine wS rfl (rfl) ?_
 refine qM ?_
 refine qC (qC (qA rfl ?_))
 refine mvT rfl ?_
 refine qB (yE rfl rfl) ?_
 refine wS rfl (decide_eq_false (by simp)) ?_
 refine qM ?_
 refine qC (qC (qA rfl ?_))
 refine mvI rfl ?_
 refine pvB rfl ?_
 refine wW rfl (rfl) ?_
 refine qA rfl ?_
 refine mvT rfl ?_
 refine mvT rfl ?_
 refine wI (caps:=[]) (vs:=[.string _, .string _]) rfl rfl rfl (Count_ok l c h) ?_
 rintro _ h1 E1 rfl
 refine qB (qO rfl (by omega)) ?_
 refine asI rfl ?_
 refine qC (qA rfl ?_)
 refine mvI rfl ?_
 refine mvT rfl ?_
 refine qB (zA rfl rfl) ?_
 refine qB (qO rfl (by omega)) ?_
 refine qB (pv_min rfl rfl) ?_
 refine asI rfl ?_
 refine qC (qA rfl ?_)
 refine mvI rfl ?_
 refine op_makeOne (len:=cntB c l + 1) rfl rfl (by omega) (by omega) rfl rfl rfl rfl rfl (by omega) rfl fun a9 ha9 => ?_
 refine qH [_] rfl ?_
 refine asS rfl ?_
 refine qC (qA rfl ?_)
 refine mvI rfl ?_
 refine qB (qO rfl (by omega)) ?_
 refine asI rfl ?_
 refine qC (qA rfl ?_)
 refine asI rfl ?_
 refine qC ?_
 refine qT ?_
 refine yC [0, 10, 11, 34, 35, 36, 37, 38, 39, 40, 41, 42, 43, 44, 45, 46, 47, 48, 49, 50, 51, 52, 53, 54, 55, 56, 57] 1 (α:=List (List UInt8) × List UInt8 × Nat) (fun ⟨p, s, j⟩ => [(10, .int .i64 p.length), (0, .string (bs s))]) (fun ⟨p, s, j⟩ L => L.set 0 (some (a9, .cells (p.flatMap strC ++ List.replicate (j + 1) (Value.string (bs []))).toArray 9 (0, 0)))) (fun ⟨p, s, j⟩ h_p => splitL c l = p ++ splitL c s ∧ p.length + j = cntB c l ∧ cntB c s = j ∧ s.length ≤ l.length) (fun ⟨p, s, j⟩ => j) (([], l, cntB c l)) ⟨rfl, rfl, trivial⟩ (rfl) (⟨rfl, by simp, rfl, Nat.le_refl _⟩) ?_
 rintro ⟨p, s, j⟩ T1 h_p E_p J_p
 refine qR [_] rfl ?_
 obtain ⟨J1, J2, J3, J4⟩ := J_p
 have hpl : (p.flatMap strC).length = p.length := by rw [wO (m:=1) (fun _ _ => rfl), Nat.mul_one]
 refine qC (qC (qA rfl ?_))
 refine mvI rfl ?_
 refine mvI rfl ?_
 refine pvB rfl ?_
 refine qP rfl (fun hk => ?_) (fun hk => ?_)
 ·skip
  have hk' := of_decide_eq_true hk
  obtain ⟨j', rfl⟩ : ∃ j', j = j' + 1 := ⟨j - 1, by omega⟩
  obtain ⟨i, hi⟩ := cnt_pos (c:=c) (l:=s) (by omega)
  obtain ⟨hil, _, _⟩ := idxO_some hi
  have hsp := splitL_at hi
  have hcd := cnt_drop hi
  have hc1 : [c].length = 1 := rfl
  refine qM ?_
  refine qT ?_
  refine qC (qA rfl ?_)
  refine mvT rfl ?_
  refine mvT rfl ?_
  refine wI (caps:=[]) (vs:=[.string _, .string _]) rfl rfl rfl (Index_ok s c h_p (by omega)) ?_
  rintro v1 h2 E2 hv1
  rw [idxI_some hi] at hv1
  subst hv1
  refine asI rfl ?_
  refine qC (qC (qA rfl ?_))
  refine mvI rfl ?_
  refine pvB rfl ?_
  refine wS rfl (decide_eq_false (by omega)) ?_
  refine qM ?_
  refine qC (qA rfl ?_)
  refine mvS rfl ?_
  refine mvI rfl ?_
  refine mvT rfl ?_
  refine mvI rfl ?_
  refine mvI rfl ?_
  refine qB (qO rfl (by omega)) ?_
  refine qB (yA 0 i rfl rfl (.inl ⟨rfl, rfl⟩) (.inr ⟨_, _, rfl, intE (a:=(i : Int) + 0) (Int.add_zero _)⟩) (by omega) (by omega)) ?_
  refine qB (zK (m:=1) rfl rfl rfl rfl (by omega) (by omega)) ?_
  refine qS 0 (v:=.string (bs (s.take i))) (vs:=[.string (bs (s.take i))]) (c':=(p ++ [s.take i]).flatMap strC ++ List.replicate (j' + 1) (Value.string (bs []))) rfl rfl rfl rfl rfl rfl (Nat.ble_eq_true_of_le (by rw [List.length_append, hpl, List.length_replicate]; show 0 + (p.length : Int).toNat * 1 + 1 ≤ _; omega)) rfl (by rw [List.flatMap_append]; exact wr_next hpl) ?_
  refine qH [_] rfl ?_
  refine qC (qA rfl ?_)
  refine mvT rfl ?_
  refine mvI rfl ?_
  refine mvT rfl ?_
  refine qB (zA rfl rfl) ?_
  refine qB (qO rfl (by omega)) ?_
  refine qB (yA (i + 1) s.length rfl rfl (.inr ⟨_, _, rfl, intE (a:=(i : Int) + ([c].length : Int)) (by rw [hc1]; push_cast; rfl)⟩) (.inl ⟨rfl, rfl⟩) (by omega) (Nat.le_refl _)) ?_
  refine asT rfl ?_
  refine qA rfl ?_
  refine mvI rfl ?_
  refine qB (qO rfl (by omega)) ?_
  refine asI rfl ?_
  refine ⟨(p ++ [s.take i], s.drop (i + 1), j'), ⟨intE (by rw [List.length_append]; simp), strE (by rw [List.take_length]), trivial⟩, rfl, rfl, (kX E_p E2), fun h3 E3 => ⟨by rw [J1, hsp, List.append_assoc]; rfl, by rw [List.length_append, List.length_singleton]; omega, by omega, by rw [List.length_drop]; omega⟩, by first | omega | (dsimp only; omega), ?_⟩
  repeat (first | exact qV _ _ _ | refine qX (by decide) ?_ | refine qU rfl ?_ | refine qY rfl ?_)
 skip
 have hk' := of_decide_eq_false hk
 have hj : j = 0 := by omega
 subst hj
 have hs1 : splitL c s = [s] := by
  cases e : idxO c s with
  | some i => have := cnt_drop e; omega
  | none => exact splitL_no (idxO_none e)
 refine wV ?_
 refine qC (qA rfl ?_)
 refine mvS rfl ?_
 refine mvI rfl ?_
 refine mvT rfl ?_
 refine qB (zK (m:=1) rfl rfl rfl rfl (by omega) (by omega)) ?_
 refine qS 0 (v:=.string (bs s)) (vs:=[.string (bs s)]) (c':=(p ++ [s]).flatMap strC) rfl rfl rfl rfl rfl rfl (Nat.ble_eq_true_of_le (by rw [List.length_append, hpl, List.length_replicate]; show 0 + (p.length : Int).toNat * 1 + 1 ≤ _; omega)) rfl (by rw [List.flatMap_append]; exact (wr_next hpl).trans (List.append_nil _)) ?_
 refine qH [_] rfl ?_
 refine qC (qA rfl ?_)
 refine mvS rfl ?_
 refine mvI rfl ?_
 refine qB (qO rfl (by omega)) ?_
 refine qB (pv_front (k:=p.length + 1) rfl rfl (by push_cast; rfl) (by omega) rfl rfl) ?_
 refine asS rfl ?_
 refine yP 0 rfl ?_
 intro h9 E9 hb9
 refine qQ ?_
 refine qJ (vs:=[_]) Tryz.results90 ⟨qG rfl rfl, trivial⟩ fun V => ?_
 exact ⟨(kX (kX (kX E1 E_p) E9) (qN V)), _, _, by rw [J1, hs1, List.length_append]; rfl, by rw [J1, hs1]; exact (row_blk (enc:=strC) (fun _ _ => rfl) hb9).ext (qN V), by rw [hsl]; exact Nat.le_refl _⟩
theorem Split_ok (l : List UInt8) (c : UInt8) (h : AH) (hl : l.length < 2 ^ 20) : FnT Tryz.prog 67 #[.string (bs l), .string (bs [c])] h (fun v h' => ∃ A cap, v = .slice A (splitL c l).length cap ∧ Row h' 1 strC A (splitL c l) ∧ (splitL c l).length ≤ cap) := by
 refine qW Tryz.func67 rfl Tryz.ntmps67 rfl ?_
 refine qC (qA rfl ?_)
 refine asS rfl ?_
 refine qC (qA rfl ?_)
 refine mvT rfl ?_
 refine mvT rfl ?_
 refine wI (caps:=[]) (vs:=[.string _, .string _, .int .i64 _, .int .i64 _]) rfl rfl rfl (genSplit_ok l c h hl) ?_
 rintro _ h1 E1 ⟨A, cap, rfl, R, hcp⟩
 refine asS rfl ?_
 refine qQ ?_
 refine qJ (vs:=[_]) Tryz.results67 ⟨qG rfl rfl, trivial⟩ fun V => ?_
 exact ⟨(kX E1 (qN V)), A, cap, rfl, R.ext (qN V), hcp⟩
end
end Go.Proofs.YtboigjfgpppeaaaGreatDoor
namespace Go.Rd
open Go.HL
set_option linter.all false
theorem isD_iff (c : UInt8) : isD c = (decide (48 ≤ c.toNat) && decide (c.toNat ≤ 57)) := u8_all (p:=fun c => isD c = (decide (48 ≤ c.toNat) && decide (c.toNat ≤ 57))) (by decide +kernel) c
structure CutJ (c : UInt8) (l : List UInt8) (p : List (List UInt8)) (f k : Nat) : Prop where
 fk : f ≤ k
 kl : k ≤ l.length
 eq : splitL c l = p ++ splitL c (l.drop f)
 no : c ∉ (l.take k).drop f
theorem CutJ.init (c : UInt8) (l : List UInt8) : CutJ c l [] 0 0 := ⟨Nat.le_refl _, Nat.zero_le _, rfl, by simp⟩
theorem take_drop_snoc {l : List UInt8} {f k : Nat} (hf : f ≤ k) (hk : k < l.length) : (l.take (k + 1)).drop f = (l.take k).drop f ++ [l[k]] := by
 rw [List.take_add_one, List.getElem?_eq_getElem hk, List.drop_append_of_le_length (by rw [List.length_take]; omega)]
 rfl
theorem CutJ.pass {c : UInt8} {l : List UInt8} {p : List (List UInt8)} {f k : Nat} (J : CutJ c l p f k) (hk : k < l.length) (hc : l[k] ≠ c) : CutJ c l p f (k + 1) := by
 refine ⟨Nat.le_succ_of_le J.fk, hk, J.eq, ?_⟩
 rw [take_drop_snoc J.fk hk]
 intro h
 rcases List.mem_append.1 h with h | h
 ·exact J.no h
 exact hc (List.mem_singleton.1 h).symm
theorem CutJ.cut {c : UInt8} {l : List UInt8} {p : List (List UInt8)} {f k : Nat} (J : CutJ c l p f k) (hk : k < l.length) (hc : l[k] = c) : CutJ c l (p ++ [(l.take k).drop f]) (k + 1) (k + 1) := by
 refine ⟨Nat.le_refl _, hk, ?_, ?_⟩
 ·have e : l.drop f = (l.take k).drop f ++ c :: l.drop (k + 1) := by
   have h1 : l.drop k = l[k] :: l.drop (k + 1) := List.drop_eq_getElem_cons hk
   rw [← hc, ← h1]
   have h2 : l = l.take k ++ l.drop k := (List.take_append_drop k l).symm
   conv => lhs; rw [h2]
   rw [List.drop_append_of_le_length (by rw [List.length_take]; have := J.fk; omega)]
  rw [J.eq, e, splitL_app _ J.no, List.append_assoc]
  rfl
 have : (l.take (k + 1)).drop (k + 1) = [] := List.drop_eq_nil_of_le (by rw [List.length_take]; omega)
 rw [this]
 simp
theorem CutJ.last {c : UInt8} {l : List UInt8} {p : List (List UInt8)} {f : Nat} (J : CutJ c l p f l.length) : splitL c l = p ++ [(l.take l.length).drop f] := by
 have := J.no
 rw [List.take_length] at this ⊢
 rw [J.eq, splitL_no this]
end Go.Rd
namespace Go.Proofs.YtboigjfgpppeaaaGreatDoor
open Go Go.HL Go.Proofs Go.Wx Go.Rd
section
variable [Lvl]
set_option maxRecDepth 100000
theorem len1_ok (h : AH) : FnT Tryz.prog 111 #[.int .u64 1] h (fun v _ => v = .int .i64 1) := by
 refine qW Tryz.func111 rfl Tryz.ntmps111 rfl ?_
 refine qC (qA rfl ?_)
 refine asI rfl ?_
 refine qC (qC (qA rfl ?_))
 refine mvI rfl ?_
 refine pvB rfl ?_
 refine wS rfl (rfl) ?_
 refine qM ?_
 refine qC (qC (qA rfl ?_))
 refine mvI rfl ?_
 refine pvB rfl ?_
 refine wS rfl (rfl) ?_
 refine qM ?_
 refine qC (qC (qA rfl ?_))
 refine mvI rfl ?_
 refine pvB rfl ?_
 refine wS rfl (rfl) ?_
 refine qM ?_
 refine qC (qA rfl ?_)
 refine mvI rfl ?_
 refine mvI rfl ?_
 refine qB (wL (v:=.int .u8 1) rfl) ?_
 refine qB (zY (c:=1) 1 rfl rfl rfl rfl rfl) ?_
 refine qB (wL (v:=.int .i64 1) rfl) ?_
 refine qB (qO rfl (by omega)) ?_
 refine asI rfl ?_
 refine qQ ?_
 refine qJ (vs:=[_]) Tryz.results111 ⟨qG rfl rfl, trivial⟩ fun V => ?_
 exact ⟨(qN V), rfl⟩
theorem log1_ok (h : AH) : FnT Tryz.prog 110 #[.int .i64 1] h (fun v _ => v = .int .i64 0) := by
 refine qW Tryz.func110 rfl Tryz.ntmps110 rfl ?_
 refine qC (qA rfl ?_)
 refine asI rfl ?_
 refine qC (qA rfl ?_)
 refine mvI rfl ?_
 refine qB (qO rfl (by omega)) ?_
 refine qB (wL (v:=.int .i64 0) rfl) ?_
 refine asI rfl ?_
 refine qQ ?_
 refine qJ (vs:=[_]) Tryz.results110 ⟨qG rfl rfl, trivial⟩ fun V => ?_
 exact ⟨(qN V), rfl⟩
theorem bool2_ok (b : Bool) (h : AH) : FnT Tryz.prog 112 #[.bool b] h (fun v _ => v = .int .i64 (if b then 1 else 0)) := by
 refine qW Tryz.func112 rfl Tryz.ntmps112 rfl ?_
 refine qC (qA rfl ?_)
 refine asI rfl ?_
 refine qC (qC (qA rfl ?_))
 refine mvB rfl ?_
 refine qP rfl (fun hb => ?_) (fun hb => ?_)
 ·skip
  refine qC (qA rfl ?_)
  refine asI rfl ?_
  refine qQ ?_
  refine qJ (vs:=[_]) Tryz.results112 ⟨qG rfl rfl, trivial⟩ fun V => ?_
  exact ⟨(qN V), intE (by rw [hb]; rfl)⟩
 skip
 refine qM ?_
 refine qC (qA rfl ?_)
 refine asI rfl ?_
 refine qQ ?_
 refine qJ (vs:=[_]) Tryz.results112 ⟨qG rfl rfl, trivial⟩ fun V => ?_
 exact ⟨(qN V), intE (by rw [hb]; rfl)⟩
theorem digits1_ok (h : AH) (PW : Pow h) : FnT Tryz.prog 98 #[.int .u64 1] h (fun v _ => v = .int .i64 1) := by
 refine qW Tryz.func98 rfl Tryz.ntmps98 rfl ?_
 refine qC (qA rfl ?_)
 refine asI rfl ?_
 refine qC (qA rfl ?_)
 refine mvI rfl ?_
 refine wI (caps:=[]) (vs:=[.int .u64 _]) rfl rfl rfl (len1_ok h) ?_
 rintro _ h1 E1 rfl
 refine wI (caps:=[]) (vs:=[.int .i64 _]) rfl rfl rfl (log1_ok h1) ?_
 rintro _ h2 E2 rfl
 refine asI rfl ?_
 refine qC (qA rfl ?_)
 refine mvI rfl ?_
 refine mvI rfl ?_
 refine mvI rfl ?_
 refine qB (zZ rfl rfl rfl rfl (by omega) (by omega)) ?_
 obtain ⟨g, off, hA, hc⟩ := (PW.ext (kX E1 E2)) (by decide)
 cases hA
 refine wX (v:=.int .u64 _) rfl rfl ((hc) 0 _ rfl) ?_
 refine pvB rfl ?_
 refine wI (caps:=[]) (vs:=[.bool _]) rfl rfl rfl (bool2_ok _ h2) ?_
 rintro _ h3 E3 rfl
 refine qB (qO rfl (by omega)) ?_
 refine asI rfl ?_
 refine qQ ?_
 refine qJ (vs:=[_]) Tryz.results98 ⟨qG rfl rfl, trivial⟩ fun V => ?_
 exact ⟨(kX (kX (kX E1 E2) E3) (qN V)), rfl⟩
def zer24 : List Value := List.replicate 24 (.int .u8 0)
theorem base1_ok (b : Nat) (h : AH) : FnM Tryz.prog (.func (.func 99) #[] ([] : List Value).toArray) [.slice (some ⟨b, 1, none⟩) 1 23, .int .u64 1] h [some (b, .cells zer24.toArray 161 (0, 0))]
  (fun v h' M' => M' = [some (b, .cells (zer24.set 1 (.int .u8 49)).toArray 161 (0, 0))]) := by
 refine zW rfl rfl Tryz.func99 rfl Tryz.ntmps99 rfl ?_
 refine qC (qA rfl ?_)
 refine mvS rfl ?_
 refine qB (wP rfl rfl) ?_
 refine asI rfl ?_
 refine qC ?_
 refine qT ?_
 refine xp_unroll ?_
 refine qC (qC (qA rfl ?_))
 refine mvI rfl ?_
 refine pvB rfl ?_
 refine wS rfl (rfl) ?_
 refine wV ?_
 refine qC (qA rfl ?_)
 refine mvI rfl ?_
 refine qB (wL (v:=.int .u32 1) rfl) ?_
 refine asI rfl ?_
 refine qC (qC (qA rfl ?_))
 refine mvI rfl ?_
 refine pvB rfl ?_
 refine wS rfl (rfl) ?_
 refine qM ?_
 refine qC (qC (qA rfl ?_))
 refine mvI rfl ?_
 refine pvB rfl ?_
 refine wS rfl (rfl) ?_
 refine qM ?_
 refine qC (qA rfl ?_)
 refine mvI rfl ?_
 refine pvB rfl ?_
 refine wW rfl (rfl) ?_
 refine qA rfl ?_
 refine mvS rfl ?_
 refine mvI rfl ?_
 refine qB (wL (v:=.int .u32 49) rfl) ?_
 refine qB (wL (v:=.int .u8 49) rfl) ?_
 refine qB (zK rfl rfl rfl rfl (by omega) (by omega)) ?_
 refine qS 0 (v:=.int .u8 _) (vs:=[_]) (c':=[_, _, _, _, _, _, _, _, _, _, _, _, _, _, _, _, _, _, _, _, _, _, _, _]) rfl rfl rfl rfl rfl rfl rfl rfl rfl ?_
 refine qH [_] rfl ?_
 refine qJ (vs:=[]) Tryz.results99 trivial fun V => ?_
 exact ⟨_, _, rfl, V, (Ext.refl _), rfl⟩
theorem fmtNeg_ok (h : AH) (PW : Pow h) : FnT Tryz.prog 86 #[.int .i64 (-1), .int .i64 10] h (fun v _ => v = .string (bs (itoaL (-1)))) := by
 refine qW Tryz.func86 rfl Tryz.ntmps86 rfl ?_
 refine qC (qA rfl ?_)
 refine asT rfl ?_
 refine qC (qC (qA rfl ?_))
 refine mvI rfl ?_
 refine pvB rfl ?_
 refine wW rfl (rfl) ?_
 refine qC (qC (qA rfl ?_))
 refine mvI rfl ?_
 refine pvB rfl ?_
 refine mvB rfl ?_
 refine qI rfl rfl ?_
 refine qI rfl rfl ?_
 refine qB (wM rfl rfl (v:=.bool _) rfl) ?_
 refine wS rfl (rfl) ?_
 refine qM ?_
 refine qC (qA rfl ?_)
 refine wT (cs:=[_, _, _, _, _, _, _, _, _, _, _, _, _, _, _, _, _, _, _, _, _, _, _, _]) rfl rfl fun b5 hb5 => ?_
 refine qH [_] rfl ?_
 refine qC (qA rfl ?_)
 refine mvI rfl ?_
 refine qB (wL (v:=.int .u64 18446744073709551615) rfl) ?_
 refine asI rfl ?_
 refine qC (qC (qA rfl ?_))
 refine mvI rfl ?_
 refine pvB rfl ?_
 refine wW rfl (rfl) ?_
 refine qA rfl ?_
 refine mvI rfl ?_
 refine qB (wL (v:=.int .u64 1) rfl) ?_
 refine asI rfl ?_
 refine qC (qA rfl ?_)
 refine mvI rfl ?_
 refine wI (caps:=[]) (vs:=[.int .u64 _]) rfl rfl rfl (digits1_ok h (PW.ext (Ext.refl _))) ?_
 rintro _ h1 E1 rfl
 refine asI rfl ?_
 refine qC (qA rfl ?_)
 refine mvI rfl ?_
 refine qB (qO rfl (by omega)) ?_
 refine qB (kS 1 2 rfl (.inr ⟨_, _, rfl, rfl⟩) (.inr ⟨_, _, rfl, rfl⟩) rfl rfl (by decide) (by decide) (by decide) rfl rfl rfl) ?_
 refine mvI rfl ?_
 refine zM [] [_] [] (vs:=_) rfl rfl rfl (base1_ok b5 h1) ?_
 rintro _ h2 _ E2 rfl
 refine qH [_] rfl ?_
 refine qC (qC (qA rfl ?_))
 refine mvI rfl ?_
 refine pvB rfl ?_
 refine wW rfl (rfl) ?_
 refine qC (qA rfl ?_)
 refine qB (zZ rfl rfl rfl rfl (by omega) (by omega)) ?_
 refine qS 0 (v:=.int .u8 _) (vs:=[_]) (c':=[_, _, _, _, _, _, _, _, _, _, _, _, _, _, _, _, _, _, _, _, _, _, _, _]) rfl rfl rfl rfl rfl rfl rfl rfl rfl ?_
 refine qH [_] rfl ?_
 refine qC (qA rfl ?_)
 refine mvI rfl ?_
 refine qB (qO rfl (by omega)) ?_
 refine qB (kS 0 2 rfl (.inl ⟨rfl, rfl⟩) (.inr ⟨_, _, rfl, rfl⟩) rfl rfl (by decide) (by decide) (by decide) rfl rfl rfl) ?_
 refine op_b2s [45, 49] rfl rfl (fun V => rd_take (rdP V (i:=0) rfl) 2) rfl rfl rfl ?_
 refine asT rfl ?_
 refine qQ ?_
 refine qJ (vs:=[_]) Tryz.results86 ⟨qG rfl rfl, trivial⟩ fun V => ?_
 exact ⟨(kX (kX E1 E2) (qN V)), rfl⟩
end
end Go.Proofs.YtboigjfgpppeaaaGreatDoor
namespace Go.Rd
def ItoD (n : Int) : Prop := n = -1 ∨ (0 ≤ n ∧ n < 100)
theorem flat_take {α : Type} (f : α → List UInt8) {l : List α} {k : Nat} (hk : k < l.length) : (l.take (k + 1)).flatMap f = (l.take k).flatMap f ++ f l[k] := by
 rw [List.take_add_one, List.getElem?_eq_getElem hk, List.flatMap_append]
 show _ ++ (f l[k] ++ []) = _
 rw [List.append_nil]
end Go.Rd
namespace Go.Proofs.YtboigjfgpppeaaaGreatDoor
open Go Go.HL Go.Proofs Go.Wx Go.Rd
section
variable [Lvl]
set_option maxRecDepth 100000
theorem fmt_ok (n : Int) (h : AH) (PW : Pow h) (hn : ItoD n) : FnT Tryz.prog 86 #[.int .i64 n, .int .i64 10] h (fun v _ => v = .string (bs (itoaL n))) := by
 rcases hn with rfl | ⟨h0, h1⟩
 ·exact fmtNeg_ok h PW
 obtain ⟨m, rfl⟩ : ∃ m : Nat, n = m := ⟨n.toNat, by omega⟩
 refine qW Tryz.func86 rfl Tryz.ntmps86 rfl ?_
 refine qC (qA rfl ?_)
 refine asT rfl ?_
 refine qC (qC (qA rfl ?_))
 refine mvI rfl ?_
 refine pvB rfl ?_
 refine wW rfl (rfl) ?_
 refine qC (qC (qA rfl ?_))
 refine mvI rfl ?_
 refine pvB rfl ?_
 refine mvB rfl ?_
 have g0 : decide ((0 : Int) ≤ m) = true := decide_eq_true h0
 refine qF rfl g0 ?_
 refine mvI rfl ?_
 refine qF rfl g0 ?_
 refine pvB rfl ?_
 refine qB (wN rfl g0 (v:=.bool _) rfl) ?_
 refine wW rfl (decide_eq_true h1) ?_
 refine qC (qA rfl ?_)
 refine mvI rfl ?_
 refine wI (caps:=[]) (vs:=[.int .i64 _]) rfl rfl rfl (small_ok m h (by omega)) ?_
 rintro _ h2 E2 rfl
 refine asT rfl ?_
 refine qQ ?_
 refine qJ (vs:=[_]) Tryz.results86 ⟨qG rfl rfl, trivial⟩ fun V => ?_
 exact ⟨(kX E2 (qN V)), strE (by unfold itoaL; rw [if_neg (by omega)]; rfl)⟩
end
end Go.Proofs.YtboigjfgpppeaaaGreatDoor
namespace Go.HL
open Go
variable [Lvl]
end Go.HL
namespace Go.HL
open Go
variable [Lvl]
section
variable {P : Program} {n : Nat} {d : Option Tmp} {ty : TypeId} {ps : String} {af : Array Edge} {S : Sl} {t u : TypeId} {x y : Operand}
theorem pv_remT {a b : Int} (hx : ev n S x = .int .i64 a) (hy : ev n S y = .int .i64 b) (hb : b ≠ 0) :
  pev P (execOp (ev n S) ⟨d, .binOp .rem t x y u, ty, ps, af, none⟩) = some (.value (.int .i64 (a.tmod b))) := by
 simp only [execOp, hx, hy, binOp, Op.intDiv, if_neg hb]
 rfl
end
end Go.HL
namespace Go.HL
open Go
variable [Lvl]
section
variable {P : Program} {n : Nat} {d : Option Tmp} {ty : TypeId} {ps : String} {af : Array Edge} {S : Sl} {t u : TypeId} {x y : Operand}
theorem pv_shrU {q : IntKind} (a k : Nat) {a' y' : Int} (hx : ev n S x = .int .u64 a') (hy : ev n S y = .int q y') (ea : a' = a) (ek : y' = k) (hk : k < 64) :
  pev P (execOp (ev n S) ⟨d, .binOp .shr t x y u, ty, ps, af, none⟩) = some (.value (.int .u64 ((a / 2 ^ k : Nat) : Int))) := by
 subst ea ek
 have e : (a : Int).fdiv (2 ^ (min ((k : Int).toNat) (IntKind.bits .u64))) = ((a / 2 ^ k : Nat) : Int) := by
  rw [show min ((k : Int).toNat) (IntKind.bits .u64) = k from by simp [IntKind.bits]; omega]
  rw [Int.fdiv_eq_ediv_of_nonneg _ (by exact_mod_cast Nat.zero_le (2 ^ k))]
  push_cast; rfl
 have hn : ¬ (k : Int) < 0 := by omega
 simp only [execOp, hx, hy, binOp, Op.shift, if_neg hn, e]
 rfl
end
section
variable {P : Program} {n : Nat} {ops : Array Oper} {os : List Oper} {K : Sl → Pv → AH → Prop} {E : Value → Sl → Pv → AH → Prop} {S : Sl} {L : Pv} {h : AH} {d : Option Tmp} {ty : TypeId} {ps : String} {af : Array Edge} {α : Type} [DecidableEq α] {kt : TypeId} {enc : α → Value}
end
end Go.HL
namespace Go.Rd
def bl (n : Nat) : Nat := if n < 1 then 0 else if n < 2 then 1 else if n < 4 then 2 else if n < 8 then 3 else if n < 16 then 4 else if n < 32 then 5 else if n < 64 then 6 else if n < 128 then 7 else 8
def len8L : List UInt8 := (List.range 256).map fun i => UInt8.ofNat (bl i)
theorem len8_at : ∀ i, i < 256 → len8L[i]? = some (UInt8.ofNat (bl i)) := by decide +kernel
def bl64 (n : Nat) : Nat := if n < 256 then bl n else 8 + bl (n / 256)
theorem bl_le (n : Nat) : bl n ≤ 8 := by unfold bl; repeat (first | omega | split)
theorem bl_u8 (n : Nat) : (UInt8.ofNat (bl n)).toNat = bl n := by
 have := bl_le n
 rw [UInt8.toNat_ofNat']
 omega
def nd0 (n : Nat) : Nat := bl64 n * 78913 / 2 ^ 18
def ndg (n : Nat) : Nat := if n < 10 then 1 else if n < 100 then 2 else 3
theorem nd_all : ∀ n, n < 1000 → 1 ≤ n → nd0 n < 4 ∧ nd0 n + (if n ≥ 10 ^ nd0 n then 1 else 0) = ndg n := by decide +kernel
theorem smalls_two : ∀ i, i < 100 → smallsL[i * 2]? = some (dig (i / 10)) ∧ smallsL[i * 2 + 1]? = some (dig (i % 10)) := by decide +kernel
theorem dig_nat : ∀ k, k < 10 → (dig k).toNat = 48 + k := by decide +kernel
end Go.Rd
namespace Go.Proofs.YtboigjfgpppeaaaGreatDoor
open Go Go.HL Go.Proofs Go.Wx Go.Rd
section
variable [Lvl]
set_option maxRecDepth 100000
theorem len64_ok (n : Nat) (h : AH) (hn : n < 1000) : FnT Tryz.prog 111 #[.int .u64 (n : Int)] h (fun v _ => v = .int .i64 (bl64 n : Int)) := by
 refine qW Tryz.func111 rfl Tryz.ntmps111 rfl ?_
 refine qC (qA rfl ?_)
 refine asI rfl ?_
 refine qC (qC (qA rfl ?_))
 refine mvI rfl ?_
 refine pvB rfl ?_
 refine wS rfl (decide_eq_false (by omega)) ?_
 refine qM ?_
 refine qC (qC (qA rfl ?_))
 refine mvI rfl ?_
 refine pvB rfl ?_
 refine wS rfl (decide_eq_false (by omega)) ?_
 refine qM ?_
 refine qC (qC (qA rfl ?_))
 refine mvI rfl ?_
 refine pvB rfl ?_
 refine qP rfl (fun hc => ?_) (fun hc => ?_)
 ·skip
  have hc' : ¬ n < 256 := by have := of_decide_eq_true hc; omega
  refine qC (qA rfl ?_)
  refine mvI rfl ?_
  refine qB (pv_shrU n 8 rfl rfl rfl rfl (by decide)) ?_
  refine asI rfl ?_
  refine qA rfl ?_
  refine mvI rfl ?_
  refine qB (qO rfl (by omega)) ?_
  refine asI rfl ?_
  refine qC (qA rfl ?_)
  refine mvI rfl ?_
  refine mvI rfl ?_
  have hq : n / 2 ^ 8 < 256 := by omega
  refine qB (vG rfl rfl rfl (wrap_u8 (by omega))) ?_
  refine qB (zY (a:=len8L) (n / 2 ^ 8) rfl rfl rfl rfl (len8_at _ hq)) ?_
  have hb := bl_u8 (n / 2 ^ 8)
  have hb2 := bl_le (n / 2 ^ 8)
  refine qB (vG (z':=(bl (n / 2 ^ 8) : Int)) rfl rfl rfl (by rw [hb]; exact i64_nat _ (by omega))) ?_
  refine qB (qO rfl (by omega)) ?_
  refine asI rfl ?_
  refine qQ ?_
  refine qJ (vs:=[_]) Tryz.results111 ⟨qG rfl rfl, trivial⟩ fun V => ?_
  exact ⟨(qN V), intE (by unfold bl64; rw [if_neg hc', show n / 2 ^ 8 = n / 256 from rfl]; omega)⟩
 skip
 have hc' : n < 256 := by have := of_decide_eq_false hc; omega
 refine qM ?_
 refine qC (qA rfl ?_)
 refine mvI rfl ?_
 refine mvI rfl ?_
 refine qB (vG rfl rfl rfl (wrap_u8 (by omega))) ?_
 refine qB (zY (a:=len8L) n rfl rfl rfl rfl (len8_at _ hc')) ?_
 have hb := bl_u8 n
 have hb2 := bl_le n
 refine qB (vG (z':=(bl n : Int)) rfl rfl rfl (by rw [hb]; exact i64_nat _ (by omega))) ?_
 refine qB (qO rfl (by omega)) ?_
 refine asI rfl ?_
 refine qQ ?_
 refine qJ (vs:=[_]) Tryz.results111 ⟨qG rfl rfl, trivial⟩ fun V => ?_
 exact ⟨(qN V), intE (by unfold bl64; rw [if_pos hc']; omega)⟩
theorem logE_ok (k : Nat) (h : AH) (hk : k < 100) : FnT Tryz.prog 110 #[.int .i64 (k : Int)] h (fun v _ => v = .int .i64 ((k * 78913 / 2 ^ 18 : Nat) : Int)) := by
 refine qW Tryz.func110 rfl Tryz.ntmps110 rfl ?_
 refine qC (qA rfl ?_)
 refine asI rfl ?_
 refine qC (qA rfl ?_)
 refine mvI rfl ?_
 refine qB (qO rfl (by omega)) ?_
 refine qB (pv_shr (k * 78913) 18 (.inl rfl) rfl rfl (by omega) rfl (by decide)) ?_
 refine asI rfl ?_
 refine qQ ?_
 refine qJ (vs:=[_]) Tryz.results110 ⟨qG rfl rfl, trivial⟩ fun V => ?_
 exact ⟨(qN V), rfl⟩
theorem digitsE_ok (n : Nat) (h : AH) (PW : Pow h) (h1 : 1 ≤ n) (hn : n < 1000) : FnT Tryz.prog 98 #[.int .u64 (n : Int)] h (fun v _ => v = .int .i64 (ndg n : Int)) := by
 obtain ⟨q1, q2⟩ := nd_all n hn h1
 refine qW Tryz.func98 rfl Tryz.ntmps98 rfl ?_
 refine qC (qA rfl ?_)
 refine asI rfl ?_
 refine qC (qA rfl ?_)
 refine mvI rfl ?_
 refine wI (caps:=[]) (vs:=[.int .u64 _]) rfl rfl rfl (len64_ok n h hn) ?_
 rintro _ h1 E1 rfl
 have hb : bl64 n < 100 := by
  have a1 := bl_le n
  have a2 := bl_le (n / 256)
  unfold bl64
  split <;> omega
 refine wI (caps:=[]) (vs:=[.int .i64 _]) rfl rfl rfl (logE_ok _ h1 hb) ?_
 rintro _ h2 E2 rfl
 refine asI rfl ?_
 refine qC (qA rfl ?_)
 refine mvI rfl ?_
 refine mvI rfl ?_
 refine mvI rfl ?_
 obtain ⟨g, off, hA, hc⟩ := (PW.ext (kX E1 E2)) (by decide)
 cases hA
 have q1' : bl64 n * 78913 / 2 ^ 18 < 4 := q1
 refine qB (zZ rfl rfl rfl rfl (by omega) (by omega)) ?_
 refine wX (v:=.int .u64 ((10 ^ nd0 n : Nat) : Int)) rfl rfl (by rw [Int.toNat_natCast]; have := hc (nd0 n) (.int .u64 ((10 ^ nd0 n : Nat) : Int)) (by rw [List.getElem?_map, List.getElem?_range q1]; rfl); show cellA _ ⟨_, 0 + nd0 n * 1, none⟩ = _; rw [Nat.mul_one]; exact this) ?_
 refine pvB rfl ?_
 refine wI (caps:=[]) (vs:=[.bool _]) rfl rfl rfl (bool2_ok _ h2) ?_
 rintro _ h3 E3 rfl
 refine qB (qO rfl (by omega)) ?_
 refine asI rfl ?_
 refine qQ ?_
 refine qJ (vs:=[_]) Tryz.results98 ⟨qG rfl rfl, trivial⟩ fun V => ?_
 exact ⟨(kX (kX (kX E1 E2) E3) (qN V)), intE (by rw [← q2]; show (nd0 n : Int) + (if decide ((n : Int) ≥ ((10 ^ nd0 n : Nat) : Int)) then 1 else 0) = _; by_cases hc : n ≥ 10 ^ nd0 n; rw [if_pos hc, if_pos (decide_eq_true (by omega))]; omega; rw [if_neg hc, if_neg (by simp only [decide_eq_true_eq]; omega)]; omega)⟩
theorem base1e_ok (b u : Nat) (h : AH) (hu : u < 10) : FnM Tryz.prog (.func (.func 99) #[] ([] : List Value).toArray) [.slice (some ⟨b, 1, none⟩) 1 23, .int .u64 (u : Int)] h [some (b, .cells zer24.toArray 161 (0, 0))]
  (fun v h' M' => M' = [some (b, .cells (zer24.set 1 (.int .u8 (dig u).toNat)).toArray 161 (0, 0))]) := by
 have hd := dig_nat u hu
 refine zW rfl rfl Tryz.func99 rfl Tryz.ntmps99 rfl ?_
 refine qC (qA rfl ?_)
 refine mvS rfl ?_
 refine qB (wP rfl rfl) ?_
 refine asI rfl ?_
 refine qC ?_
 refine qT ?_
 refine xp_unroll ?_
 refine qC (qC (qA rfl ?_))
 refine mvI rfl ?_
 refine pvB rfl ?_
 refine wS rfl (rfl) ?_
 refine wV ?_
 refine qC (qA rfl ?_)
 refine mvI rfl ?_
 refine qB (vG (z':=(u : Int)) rfl rfl rfl (vQ (by omega))) ?_
 refine asI rfl ?_
 refine qC (qC (qA rfl ?_))
 refine mvI rfl ?_
 refine pvB rfl ?_
 refine wS rfl (rfl) ?_
 refine qM ?_
 refine qC (qC (qA rfl ?_))
 refine mvI rfl ?_
 refine pvB rfl ?_
 refine wS rfl (rfl) ?_
 refine qM ?_
 refine qC (qA rfl ?_)
 refine mvI rfl ?_
 refine pvB rfl ?_
 refine wW rfl (rfl) ?_
 refine qA rfl ?_
 refine mvS rfl ?_
 refine mvI rfl ?_
 refine qB (pv_w (r:=((48 + u : Nat) : Int)) rfl (by rw [vQ (by omega)]; omega)) ?_
 refine qB (vG (z':=((dig u).toNat : Int)) rfl rfl rfl (by rw [wrap_u8 (by omega)]; omega)) ?_
 refine qB (zK rfl rfl rfl rfl (by omega) (by omega)) ?_
 refine qS 0 (v:=.int .u8 _) (vs:=[_]) (c':=[_, _, _, _, _, _, _, _, _, _, _, _, _, _, _, _, _, _, _, _, _, _, _, _]) rfl rfl rfl rfl rfl rfl rfl rfl rfl ?_
 refine qH [_] rfl ?_
 refine qJ (vs:=[]) Tryz.results99 trivial fun V => ?_
 exact ⟨_, _, rfl, V, (Ext.refl _), rfl⟩
theorem base2e_ok (b u : Nat) (h : AH) (h1 : 10 ≤ u) (hu : u < 100) : FnM Tryz.prog (.func (.func 99) #[] ([] : List Value).toArray) [.slice (some ⟨b, 1, none⟩) 2 23, .int .u64 (u : Int)] h [some (b, .cells zer24.toArray 161 (0, 0))]
  (fun v h' M' => M' = [some (b, .cells ((zer24.set 2 (.int .u8 (dig (u % 10)).toNat)).set 1 (.int .u8 (dig (u / 10)).toNat)).toArray 161 (0, 0))]) := by
 obtain ⟨s1, s2⟩ := smalls_two (u % 100) (by omega)
 rw [show u % 100 = u by omega] at s1 s2
 refine zW rfl rfl Tryz.func99 rfl Tryz.ntmps99 rfl ?_
 refine qC (qA rfl ?_)
 refine mvS rfl ?_
 refine qB (wP rfl rfl) ?_
 refine asI rfl ?_
 refine qC ?_
 refine qT ?_
 refine xp_unroll ?_
 refine qC (qC (qA rfl ?_))
 refine mvI rfl ?_
 refine pvB rfl ?_
 refine wS rfl (rfl) ?_
 refine wV ?_
 refine qC (qA rfl ?_)
 refine mvI rfl ?_
 refine qB (vG (z':=(u : Int)) rfl rfl rfl (vQ (by omega))) ?_
 refine asI rfl ?_
 refine qC (qC (qA rfl ?_))
 refine mvI rfl ?_
 refine pvB rfl ?_
 refine wS rfl (rfl) ?_
 refine qM ?_
 refine qC (qC (qA rfl ?_))
 refine mvI rfl ?_
 refine pvB rfl ?_
 refine wW rfl (rfl) ?_
 refine qC (qA rfl ?_)
 refine mvI rfl ?_
 refine qB (pv_remN u 100 rfl rfl rfl rfl (by decide)) ?_
 refine qB (pv_w (r:=((u * 2 : Nat) : Int)) rfl (by rw [vQ (by omega)]; omega)) ?_
 refine asI rfl ?_
 refine qC (qA rfl ?_)
 refine mvI rfl ?_
 refine qB (pv_quoN u 100 rfl rfl rfl rfl (by decide) (vQ (by omega))) ?_
 refine asI rfl ?_
 refine qC ?_
 refine zL [true] rfl rfl rfl ?_
 refine qE (i:=0) rfl (by decide +kernel) (qK (v:=.slice _ _ _) rfl) ?_
 refine qE (i:=1) rfl (by decide +kernel) (qK (v:=.int .i64 _) rfl) ?_
 refine qE (i:=2) rfl (by decide +kernel) (qO rfl (by omega)) ?_
 refine qE (i:=3) rfl (by decide +kernel) (qK (v:=.slice _ _ _) rfl) ?_
 refine qE (i:=4) rfl (by decide +kernel) (qK (v:=.int .i64 _) rfl) ?_
 refine qE (i:=5) rfl (by decide +kernel) (qO rfl (by omega)) ?_
 refine qE (i:=6) rfl (by decide +kernel) (qK (v:=.int .u32 _) rfl) ?_
 refine qE (i:=7) rfl (by decide +kernel) (pv_w (r:=((u * 2 + 1 : Nat) : Int)) rfl (by rw [vQ (by omega)]; omega)) ?_
 refine qE (i:=8) rfl (by decide +kernel) (zY (a:=smallsL) (u * 2 + 1) rfl rfl rfl rfl s2) ?_
 refine qE (i:=9) rfl (by decide +kernel) (qK (v:=.int .u32 _) rfl) ?_
 refine qE (i:=10) rfl (by decide +kernel) (zY (a:=smallsL) (u * 2) rfl rfl rfl rfl s1) ?_
 refine qE (i:=11) rfl (by decide +kernel) (zK rfl rfl rfl rfl (by omega) (by omega)) ?_
 refine wU (i:=12) rfl (by decide +kernel) (by decide +kernel) ?_
 refine qS 0 (v:=.int .u8 _) (vs:=[_]) (c':=[_, _, _, _, _, _, _, _, _, _, _, _, _, _, _, _, _, _, _, _, _, _, _, _]) rfl rfl rfl rfl rfl rfl rfl rfl rfl ?_
 refine wJ [_] rfl ?_
 refine qE (i:=13) rfl (by decide +kernel) (zK rfl rfl rfl rfl (by omega) (by omega)) ?_
 refine wU (i:=14) rfl (by decide +kernel) (by decide +kernel) ?_
 refine qS 0 (v:=.int .u8 _) (vs:=[_]) (c':=[_, _, _, _, _, _, _, _, _, _, _, _, _, _, _, _, _, _, _, _, _, _, _, _]) rfl rfl rfl rfl rfl rfl rfl rfl rfl ?_
 refine wJ [_] rfl ?_
 refine zB rfl ?_
 refine qA rfl ?_
 refine mvI rfl ?_
 refine qB (qO rfl (by omega)) ?_
 refine asI rfl ?_
 refine qC (qA rfl ?_)
 refine mvI rfl ?_
 refine pvB rfl ?_
 refine wS rfl (rfl) ?_
 refine qM ?_
 refine qJ (vs:=[]) Tryz.results99 trivial fun V => ?_
 exact ⟨_, _, rfl, V, (Ext.refl _), rfl⟩
theorem base3e_ok (b u : Nat) (h : AH) (h1 : 100 ≤ u) (hu : u < 1000) : FnM Tryz.prog (.func (.func 99) #[] ([] : List Value).toArray) [.slice (some ⟨b, 1, none⟩) 3 23, .int .u64 (u : Int)] h [some (b, .cells zer24.toArray 161 (0, 0))]
  (fun v h' M' => M' = [some (b, .cells (((zer24.set 3 (.int .u8 (dig (u % 100 % 10)).toNat)).set 2 (.int .u8 (dig (u % 100 / 10)).toNat)).set 1 (.int .u8 (dig (u / 100)).toNat)).toArray 161 (0, 0))]) := by
 obtain ⟨s1, s2⟩ := smalls_two (u % 100) (by omega)
 have hd := dig_nat (u / 100) (by omega)
 refine zW rfl rfl Tryz.func99 rfl Tryz.ntmps99 rfl ?_
 refine qC (qA rfl ?_)
 refine mvS rfl ?_
 refine qB (wP rfl rfl) ?_
 refine asI rfl ?_
 refine qC ?_
 refine qT ?_
 refine xp_unroll ?_
 refine qC (qC (qA rfl ?_))
 refine mvI rfl ?_
 refine pvB rfl ?_
 refine wS rfl (rfl) ?_
 refine wV ?_
 refine qC (qA rfl ?_)
 refine mvI rfl ?_
 refine qB (vG (z':=(u : Int)) rfl rfl rfl (vQ (by omega))) ?_
 refine asI rfl ?_
 refine qC (qC (qA rfl ?_))
 refine mvI rfl ?_
 refine pvB rfl ?_
 refine wS rfl (rfl) ?_
 refine qM ?_
 refine qC (qC (qA rfl ?_))
 refine mvI rfl ?_
 refine pvB rfl ?_
 refine wW rfl (rfl) ?_
 refine qC (qA rfl ?_)
 refine mvI rfl ?_
 refine qB (pv_remN u 100 rfl rfl rfl rfl (by decide)) ?_
 refine qB (pv_w (r:=((u % 100 * 2 : Nat) : Int)) rfl (by rw [vQ (by omega)]; omega)) ?_
 refine asI rfl ?_
 refine qC (qA rfl ?_)
 refine mvI rfl ?_
 refine qB (pv_quoN u 100 rfl rfl rfl rfl (by decide) (vQ (by omega))) ?_
 refine asI rfl ?_
 refine qC ?_
 refine zL [true] rfl rfl rfl ?_
 refine qE (i:=0) rfl (by decide +kernel) (qK (v:=.slice _ _ _) rfl) ?_
 refine qE (i:=1) rfl (by decide +kernel) (qK (v:=.int .i64 _) rfl) ?_
 refine qE (i:=2) rfl (by decide +kernel) (qO rfl (by omega)) ?_
 refine qE (i:=3) rfl (by decide +kernel) (qK (v:=.slice _ _ _) rfl) ?_
 refine qE (i:=4) rfl (by decide +kernel) (qK (v:=.int .i64 _) rfl) ?_
 refine qE (i:=5) rfl (by decide +kernel) (qO rfl (by omega)) ?_
 refine qE (i:=6) rfl (by decide +kernel) (qK (v:=.int .u32 _) rfl) ?_
 refine qE (i:=7) rfl (by decide +kernel) (pv_w (r:=((u % 100 * 2 + 1 : Nat) : Int)) rfl (by rw [vQ (by omega)]; omega)) ?_
 refine qE (i:=8) rfl (by decide +kernel) (zY (a:=smallsL) (u % 100 * 2 + 1) rfl rfl rfl rfl s2) ?_
 refine qE (i:=9) rfl (by decide +kernel) (qK (v:=.int .u32 _) rfl) ?_
 refine qE (i:=10) rfl (by decide +kernel) (zY (a:=smallsL) (u % 100 * 2) rfl rfl rfl rfl s1) ?_
 refine qE (i:=11) rfl (by decide +kernel) (zK rfl rfl rfl rfl (by omega) (by omega)) ?_
 refine wU (i:=12) rfl (by decide +kernel) (by decide +kernel) ?_
 refine qS 0 (v:=.int .u8 _) (vs:=[_]) (c':=[_, _, _, _, _, _, _, _, _, _, _, _, _, _, _, _, _, _, _, _, _, _, _, _]) rfl rfl rfl rfl rfl rfl rfl rfl rfl ?_
 refine wJ [_] rfl ?_
 refine qE (i:=13) rfl (by decide +kernel) (zK rfl rfl rfl rfl (by omega) (by omega)) ?_
 refine wU (i:=14) rfl (by decide +kernel) (by decide +kernel) ?_
 refine qS 0 (v:=.int .u8 _) (vs:=[_]) (c':=[_, _, _, _, _, _, _, _, _, _, _, _, _, _, _, _, _, _, _, _, _, _, _, _]) rfl rfl rfl rfl rfl rfl rfl rfl rfl ?_
 refine wJ [_] rfl ?_
 refine zB rfl ?_
 refine qA rfl ?_
 refine mvI rfl ?_
 refine qB (qO rfl (by omega)) ?_
 refine asI rfl ?_
 refine qC (qA rfl ?_)
 refine mvI rfl ?_
 refine pvB rfl ?_
 refine wW rfl (rfl) ?_
 refine qA rfl ?_
 refine mvS rfl ?_
 refine mvI rfl ?_
 refine qB (pv_w (r:=((48 + u / 100 : Nat) : Int)) rfl (by rw [vQ (by omega)]; omega)) ?_
 refine qB (vG (z':=((dig (u / 100)).toNat : Int)) rfl rfl rfl (by rw [wrap_u8 (by omega)]; omega)) ?_
 refine qB (zK rfl rfl rfl rfl (by omega) (by omega)) ?_
 refine qS 0 (v:=.int .u8 _) (vs:=[_]) (c':=[_, _, _, _, _, _, _, _, _, _, _, _, _, _, _, _, _, _, _, _, _, _, _, _]) rfl rfl rfl rfl rfl rfl rfl rfl rfl ?_
 refine qH [_] rfl ?_
 refine qJ (vs:=[]) Tryz.results99 trivial fun V => ?_
 exact ⟨_, _, rfl, V, (Ext.refl _), rfl⟩
def cellsE (c : UInt8) (u : Nat) : List Value := .int .u8 c.toNat :: ((natL u).flatMap byC ++ List.replicate (23 - ndg u) (.int .u8 0))
theorem baseE_ok (b u : Nat) (h : AH) (hu : u < 1000) : FnM Tryz.prog (.func (.func 99) #[] ([] : List Value).toArray) [.slice (some ⟨b, 1, none⟩) (ndg u) 23, .int .u64 (u : Int)] h [some (b, .cells zer24.toArray 161 (0, 0))]
  (fun v h' M' => M' = [some (b, .cells (cellsE 0 u).toArray 161 (0, 0))]) := by
 unfold cellsE natL ndg
 by_cases h1 : u < 10
 ·rw [if_pos h1, if_pos h1]
  exact base1e_ok b u h h1
 rw [if_neg h1, if_neg h1]
 by_cases h2 : u < 100
 ·rw [if_pos h2, if_pos h2]
  exact base2e_ok b u h (by omega) h2
 rw [if_neg h2, if_neg h2]
 refine (base3e_ok b u h (by omega) hu).mono fun v h' M' _ e => ?_
 rw [e, show u % 100 % 10 = u % 10 by omega, show u % 100 / 10 = u / 10 % 10 by omega]
 rfl
theorem ndg_len (u : Nat) : (natL u).length = ndg u := by
 unfold natL ndg
 split
 ·rfl
 split <;> rfl
theorem ndg_le (u : Nat) : 1 ≤ ndg u ∧ ndg u ≤ 3 := by
 unfold ndg
 split
 ·decide
 split <;> decide
theorem fmtE_ok (n : Int) (h : AH) (PW : Pow h) (hn : n.natAbs < 1000) : FnT Tryz.prog 86 #[.int .i64 n, .int .i64 10] h (fun v _ => v = .string (bs (itoaL n))) := by
 by_cases hs : 0 ≤ n ∧ n < 100
 ·exact fmt_ok n h PW (.inr hs)
 obtain ⟨u, hu⟩ : ∃ u : Nat, u = n.natAbs := ⟨_, rfl⟩
 have hu1 : 1 ≤ u := by omega
 have hu2 : u < 1000 := by omega
 obtain ⟨n1, n3⟩ := ndg_le u
 have hln := ndg_len u
 refine qW Tryz.func86 rfl Tryz.ntmps86 rfl ?_
 refine qC (qA rfl ?_)
 refine asT rfl ?_
 refine qC (qC (qA rfl ?_))
 refine mvI rfl ?_
 refine pvB rfl ?_
 refine wW rfl (rfl) ?_
 refine qC (qC (qA rfl ?_))
 refine mvI rfl ?_
 refine pvB rfl ?_
 refine mvB rfl ?_
 by_cases h0 : 0 ≤ n
 ·have g0 : decide ((0 : Int) ≤ n) = true := decide_eq_true h0
  have hun : n = (u : Int) := by omega
  refine qF rfl g0 ?_
  refine mvI rfl ?_
  refine qF rfl g0 ?_
  refine pvB rfl ?_
  refine qB (wN rfl g0 (v:=.bool _) rfl) ?_
  refine wS rfl (decide_eq_false (by omega)) ?_
  refine qM ?_
  refine qC (qA rfl ?_)
  refine wT (cs:=[_, _, _, _, _, _, _, _, _, _, _, _, _, _, _, _, _, _, _, _, _, _, _, _]) rfl rfl fun b5 hb5 => ?_
  refine qH [_] rfl ?_
  refine qC (qA rfl ?_)
  refine mvI rfl ?_
  refine qB (vG (z':=(u : Int)) rfl rfl rfl (by rw [hun]; exact u64_nat u (by omega))) ?_
  refine asI rfl ?_
  refine qC (qC (qA rfl ?_))
  refine mvI rfl ?_
  refine pvB rfl ?_
  refine wS rfl (decide_eq_false (by omega)) ?_
  refine qM ?_
  refine qC (qA rfl ?_)
  refine mvI rfl ?_
  refine wI (caps:=[]) (vs:=[.int .u64 _]) rfl rfl rfl (digitsE_ok u h (PW.ext (Ext.refl _)) hu1 hu2) ?_
  rintro _ h1 E1 rfl
  refine asI rfl ?_
  refine qC (qA rfl ?_)
  refine mvI rfl ?_
  refine qB (qO rfl (by omega)) ?_
  refine qB (kS 1 (1 + ndg u) (l':=ndg u) rfl (.inr ⟨_, _, rfl, rfl⟩) (.inr ⟨_, _, rfl, by push_cast; rfl⟩) rfl rfl (by omega) (by omega) (by decide) rfl (by omega) rfl) ?_
  refine mvI rfl ?_
  refine zM [] [_] [] (vs:=_) rfl rfl rfl (baseE_ok b5 u h1 hu2) ?_
  rintro _ h2 _ E2 rfl
  refine qH [_] rfl ?_
  refine qC (qC (qA rfl ?_))
  refine mvI rfl ?_
  refine pvB rfl ?_
  refine wS rfl (decide_eq_false (by omega)) ?_
  refine qM ?_
  refine qC (qA rfl ?_)
  refine mvI rfl ?_
  refine qB (qO rfl (by omega)) ?_
  refine qB (kS 1 (1 + ndg u) (l':=ndg u) rfl (.inr ⟨_, _, rfl, rfl⟩) (.inr ⟨_, _, rfl, by push_cast; rfl⟩) rfl rfl (by omega) (by omega) (by decide) rfl (by omega) rfl) ?_
  refine op_b2s (natL u) rfl hln (fun V => rd_mid (pre:=[.int .u8 ((0 : UInt8).toNat : Int)]) (cs:=(natL u).flatMap byC) (junk:=List.replicate (23 - ndg u) (.int .u8 0)) (zP V (i:=0) rfl) rfl) rfl rfl rfl ?_
  refine asT rfl ?_
  refine qQ ?_
  refine qJ (vs:=[_]) Tryz.results86 ⟨qG rfl rfl, trivial⟩ fun V => ?_
  exact ⟨(kX (kX E1 E2) (qN V)), strE (by rw [hun, itoaL_nat])⟩
 skip
 have g0 : decide ((0 : Int) ≤ n) = false := decide_eq_false h0
 have hun : n = -(u : Int) := by omega
 refine qI rfl g0 ?_
 refine qI rfl g0 ?_
 refine qB (wM rfl g0 (v:=.bool _) rfl) ?_
 refine wS rfl (rfl) ?_
 refine qM ?_
 refine qC (qA rfl ?_)
 refine wT (cs:=[_, _, _, _, _, _, _, _, _, _, _, _, _, _, _, _, _, _, _, _, _, _, _, _]) rfl rfl fun b5_1 hb5_1 => ?_
 refine qH [_] rfl ?_
 refine qC (qA rfl ?_)
 refine mvI rfl ?_
 refine qB (vG (z':=((2 ^ 64 - u : Nat) : Int)) rfl rfl rfl (by rw [hun]; show (-(u : Int)) % 18446744073709551616 = _; omega)) ?_
 refine asI rfl ?_
 refine qC (qC (qA rfl ?_))
 refine mvI rfl ?_
 refine pvB rfl ?_
 refine wW rfl (decide_eq_true (by omega)) ?_
 refine qA rfl ?_
 refine mvI rfl ?_
 refine qB (pv_w (r:=(u : Int)) rfl (by show (0 - ((2 ^ 64 - u : Nat) : Int)) % 18446744073709551616 = _; omega)) ?_
 refine asI rfl ?_
 refine qC (qA rfl ?_)
 refine mvI rfl ?_
 refine wI (caps:=[]) (vs:=[.int .u64 _]) rfl rfl rfl (digitsE_ok u h (PW.ext (Ext.refl _)) hu1 hu2) ?_
 rintro _ h1 E1 rfl
 refine asI rfl ?_
 refine qC (qA rfl ?_)
 refine mvI rfl ?_
 refine qB (qO rfl (by omega)) ?_
 refine qB (kS 1 (1 + ndg u) (l':=ndg u) rfl (.inr ⟨_, _, rfl, rfl⟩) (.inr ⟨_, _, rfl, by push_cast; rfl⟩) rfl rfl (by omega) (by omega) (by decide) rfl (by omega) rfl) ?_
 refine mvI rfl ?_
 refine zM [] [_] [] (vs:=_) rfl rfl rfl (baseE_ok b5_1 u h1 hu2) ?_
 rintro _ h2 _ E2 rfl
 refine qH [_] rfl ?_
 refine qC (qC (qA rfl ?_))
 refine mvI rfl ?_
 refine pvB rfl ?_
 refine wW rfl (decide_eq_true (by omega)) ?_
 refine qC (qA rfl ?_)
 refine qB (zZ rfl rfl rfl rfl (by omega) (by omega)) ?_
 refine qS 0 (v:=.int .u8 45) (vs:=[.int .u8 45]) (c':=cellsE 45 u) rfl rfl rfl rfl rfl rfl rfl rfl rfl ?_
 refine qH [_] rfl ?_
 refine qC (qA rfl ?_)
 refine mvI rfl ?_
 refine qB (qO rfl (by omega)) ?_
 refine qB (kS 0 (1 + ndg u) rfl (.inl ⟨rfl, rfl⟩) (.inr ⟨_, _, rfl, by push_cast; rfl⟩) rfl rfl (by omega) (by omega) (by decide) rfl rfl rfl) ?_
 refine op_b2s (45 :: natL u) rfl (by rw [List.length_cons, hln]; omega) (fun V => rd_front (cs:=(45 :: natL u).flatMap byC) (junk:=List.replicate (23 - ndg u) (.int .u8 0)) (zP V (i:=0) rfl)) rfl rfl rfl ?_
 refine asT rfl ?_
 refine qQ ?_
 refine qJ (vs:=[_]) Tryz.results86 ⟨qG rfl rfl, trivial⟩ fun V => ?_
 exact ⟨(kX (kX E1 E2) (qN V)), strE (by rw [hun, itoaL_neg hu1])⟩
theorem itoa1E_ok (n : Int) (h : AH) (PW : Pow h) (hn : n.natAbs < 1000) : FnT Tryz.prog 63 #[.int .i64 n] h (fun v _ => v = .string (bs (itoaL n))) := by
 refine qW Tryz.func63 rfl Tryz.ntmps63 rfl ?_
 refine qC (qA rfl ?_)
 refine asT rfl ?_
 refine qC (qA rfl ?_)
 refine mvI rfl ?_
 refine wI (caps:=[]) (vs:=[.int .i64 _, .int .i64 _]) rfl rfl rfl (fmtE_ok n h (PW.ext (Ext.refl _)) hn) ?_
 rintro _ h2 E2 rfl
 refine asT rfl ?_
 refine qQ ?_
 refine qJ (vs:=[_]) Tryz.results63 ⟨qG rfl rfl, trivial⟩ fun V => ?_
 exact ⟨(kX E2 (qN V)), rfl⟩
theorem itoaE_ok (n : Int) (h : AH) (PW : Pow h) (hn : n.natAbs < 1000) : FnT Tryz.prog 30 #[.int .i64 n] h (fun v _ => v = .string (bs (itoaL n))) := by
 refine qW Tryz.func30 rfl Tryz.ntmps30 rfl ?_
 refine qC (qA rfl ?_)
 refine asT rfl ?_
 refine qC (qA rfl ?_)
 refine mvI rfl ?_
 refine wI (caps:=[]) (vs:=[.int .i64 _]) rfl rfl rfl (itoa1E_ok n h (PW.ext (Ext.refl _)) hn) ?_
 rintro _ h2 E2 rfl
 refine asT rfl ?_
 refine qQ ?_
 refine qJ (vs:=[_]) Tryz.results30 ⟨qG rfl rfl, trivial⟩ fun V => ?_
 exact ⟨(kX E2 (qN V)), rfl⟩
end
end Go.Proofs.YtboigjfgpppeaaaGreatDoor
namespace Go.HL
open Go
variable [Lvl]
section
variable {P : Program} {n : Nat} {ops : Array Oper} {d : Option Tmp} {op : Op} {ty : TypeId} {ps : String} {af : Array Edge} {os : List Oper} {K : Sl → Pv → AH → Prop} {E : Value → Sl → Pv → AH → Prop} {S : Sl} {L : Pv} {h : AH}
theorem wrap_u64 (z : Int) : ∃ r : Nat, r < 2 ^ 64 ∧ IntKind.wrap .u64 z = (r : Int) := by
 have e : IntKind.wrap .u64 z = z % 2 ^ 64 := by simp [IntKind.wrap, IntKind.bits, IntKind.signed]
 have h1 : 0 ≤ z % 2 ^ 64 := Int.emod_nonneg _ (by decide)
 have h2 : z % 2 ^ 64 < 2 ^ 64 := Int.emod_lt_of_pos _ (by decide)
 exact ⟨(z % 2 ^ 64).toNat, by omega, by rw [e]; omega⟩
theorem op_some {z : Int} (hv : pev P (execOp (ev n S) ⟨d, op, ty, ps, af, none⟩) = some (.value (.int .u64 (IntKind.wrap .u64 z))))
  (k : ∀ r : Nat, r < 2 ^ 64 → wpL P n ops os K E (put S d (.int .u64 (r : Int))) L h) : wpL P n ops (⟨d, op, ty, ps, af, none⟩ :: os) K E S L h := by
 obtain ⟨r, hr, e⟩ := wrap_u64 z
 rw [e] at hv
 exact qB hv (k r hr)
theorem dw_some {mask : List Bool} {X : Sl → AH → Prop} {dn ac : List Nat} {i : Nat} {z : Int} (hoi : ops[i]? = some ⟨d, op, ty, ps, af, none⟩) (hok : okS ops dn ac i = true) (hv : pev P (execOp (ev n S) ⟨d, op, ty, ps, af, none⟩) = some (.value (.int .u64 (IntKind.wrap .u64 z))))
  (k : ∀ r : Nat, r < 2 ^ 64 → Dw P n ops mask X (i :: dn) ac (put S d (.int .u64 (r : Int))) L h) : Dw P n ops mask X dn ac S L h := by
 obtain ⟨r, hr, e⟩ := wrap_u64 z
 rw [e] at hv
 exact qE hoi hok hv (k r hr)
theorem pv_rem {t u : TypeId} {x y : Operand} {a b : Nat} {b' : Int} (hx : ev n S x = .int .u64 (a : Int)) (hy : ev n S y = .int .u64 b') (eb : b' = b) (hb : 0 < b) :
  pev P (execOp (ev n S) ⟨d, .binOp .rem t x y u, ty, ps, af, none⟩) = some (.value (.int .u64 ((a % b : Nat) : Int))) := by
 subst eb
 have h0 : ¬ ((b : Nat) : Int) = 0 := by omega
 simp only [execOp, hx, hy, binOp, Op.intDiv, if_neg h0]
 rfl
end
end Go.HL
namespace Go.Proofs.YtboigjfgpppeaaaGreatDoor
open Go Go.HL Go.Proofs Go.Wx Go.Rd
section
variable [Lvl]
set_option maxRecDepth 100000
structure Errs (h : AH) : Prop where
 syn : ∃ t p, Rd h (some ⟨6, 0, none⟩) [.iface t p]
 rng : ∃ t p, Rd h (some ⟨7, 0, none⟩) [.iface t p]
theorem Errs.ext {h h' : AH} (e : Errs h) (E : Ext h h') : Errs h' := by
 obtain ⟨⟨t, p, a⟩, ⟨t2, p2, b⟩⟩ := e
 exact ⟨⟨t, p, a.ext E⟩, ⟨t2, p2, b.ext E⟩⟩
theorem lies_byte (k : Nat) : liesAt Tryz.prog Tryz.prog.depth 5 (k / Tryz.prog.cellsOf 5) 0 5 k = true := by
 obtain ⟨d, hd⟩ : ∃ d, Tryz.prog.depth = d + 1 := ⟨_, rfl⟩
 have hc : Tryz.prog.cellsOf 5 = 1 := by kernel_rfl
 rw [hd]
 unfold liesAt rowAt
 rw [hd, hc, Nat.div_one]
 simp only [Nat.zero_div, Nat.zero_mod, Nat.zero_add]
 have hs : sameLayout Tryz.prog (d + 1) 5 5 = true := by
  unfold sameLayout
  simp
 simp [hs, hc]
theorem Clone_ok (l : List UInt8) (h : AH) (hl : l.length < 2 ^ 20) : FnT Tryz.prog 139 #[.string (bs l)] h (fun v _ => v = .string (bs l)) := by
 refine qW Tryz.func139 rfl Tryz.ntmps139 rfl ?_
 refine qC (qA rfl ?_)
 refine asT rfl ?_
 refine qC (qC (qA rfl ?_))
 refine mvT rfl ?_
 refine qB (zA rfl rfl) ?_
 refine pvB rfl ?_
 refine qP rfl (fun hc => ?_) (fun hc => ?_)
 ·skip
  have hc' : l = [] := by
   have : (l.length : Int) = 0 := by simpa using hc
   exact List.eq_nil_of_length_eq_zero (by omega)
  refine qC (qA rfl ?_)
  refine asT rfl ?_
  refine qQ ?_
  refine qJ (vs:=[_]) Tryz.results139 ⟨qG rfl rfl, trivial⟩ fun V => ?_
  exact ⟨(qN V), by rw [hc']; rfl⟩
 skip
 have hc' : 0 < l.length := by
  have : ¬ (l.length : Int) = 0 := by simpa using hc
  omega
 refine qM ?_
 refine qC (qA rfl ?_)
 refine mvT rfl ?_
 refine qB (zA rfl rfl) ?_
 refine op_makeOne (len:=l.length) rfl rfl rfl rfl rfl rfl rfl rfl rfl (by omega) rfl fun a3 ha3 => ?_
 refine qH [_] rfl ?_
 refine asS rfl ?_
 refine qC (qA rfl ?_)
 refine mvS rfl ?_
 refine mvT rfl ?_
 refine op_copyS 0 (dl:=l.length) rfl rfl rfl rfl (List.length_replicate ..) rfl rfl ?_
 refine qH [_] rfl ?_
 refine qC (qA rfl ?_)
 refine mvS rfl ?_
 refine qB (zK rfl rfl rfl rfl (by omega) (by omega)) ?_
 refine mvS rfl ?_
 refine qB (wP rfl rfl) ?_
 refine op_usS 0 l rfl rfl rfl rfl hc' (by omega) rfl (lies_byte _) ?_
 refine qH [_] rfl ?_
 refine asT rfl ?_
 refine qQ ?_
 refine qJ (vs:=[_]) Tryz.results139 ⟨qG rfl rfl, trivial⟩ fun V => ?_
 exact ⟨(qN V), rfl⟩
theorem synErr_ok (f l : List UInt8) (h : AH) (ER : Errs h) (hl : l.length < 2 ^ 20) : FnT Tryz.prog 131 #[.string (bs f), .string (bs l)] h (fun v _ => ∃ a, v = .pointer (some a)) := by
 obtain ⟨t, p, R0⟩ := ER.syn
 obtain ⟨g, off, hA, hc⟩ := R0 (by simp)
 cases hA
 refine qW Tryz.func131 rfl Tryz.ntmps131 rfl ?_
 refine qC (qA rfl ?_)
 refine qB (wA (v:=.pointer _) rfl) ?_
 refine qC ?_
 refine zL [] rfl rfl rfl ?_
 refine qE (i:=0) rfl (by decide +kernel) (qK (v:=.string _) rfl) ?_
 refine qE (i:=1) rfl (by decide +kernel) (qK (v:=.string _) rfl) ?_
 refine wD (i:=3) rfl (by decide +kernel) ?_
 refine wX (v:=_) rfl rfl ((hc) 0 _ rfl) ?_
 refine wZ (i:=2) rfl (by decide +kernel) ?_
 refine wI (caps:=[]) (vs:=[.string _]) rfl rfl rfl (Clone_ok l h hl) ?_
 rintro _ h1 E1 rfl
 refine ⟨zJ E1 _, ?_⟩
 refine qE (i:=4) rfl (by decide +kernel) (zD (zc:=[_, _, _]) (vs:=[(0, .string _), (1, .string _), (2, _)]) (cs:=[_, _, _]) rfl rfl rfl rfl rfl rfl) ?_
 refine wU (i:=5) rfl (by decide +kernel) (by decide +kernel) ?_
 refine zC (v:=.agg #[.string _, .string _, _]) (cs:=[_, _, _]) rfl rfl fun b10 hb10 => ?_
 refine wJ [_] rfl ?_
 refine qE (i:=6) rfl (by decide +kernel) (wA (v:=.pointer (some ⟨b10, 0, none⟩)) rfl) ?_
 refine zB rfl ?_
 refine qQ ?_
 refine qJ (vs:=[_]) Tryz.results131 ⟨qG rfl rfl, trivial⟩ fun V => ?_
 exact ⟨(kX E1 (qN V)), _, rfl⟩
theorem rngErr_ok (f l : List UInt8) (h : AH) (ER : Errs h) (hl : l.length < 2 ^ 20) : FnT Tryz.prog 132 #[.string (bs f), .string (bs l)] h (fun v _ => ∃ a, v = .pointer (some a)) := by
 obtain ⟨t, p, R0⟩ := ER.rng
 obtain ⟨g, off, hA, hc⟩ := R0 (by simp)
 cases hA
 refine qW Tryz.func132 rfl Tryz.ntmps132 rfl ?_
 refine qC (qA rfl ?_)
 refine qB (wA (v:=.pointer _) rfl) ?_
 refine qC ?_
 refine zL [] rfl rfl rfl ?_
 refine qE (i:=0) rfl (by decide +kernel) (qK (v:=.string _) rfl) ?_
 refine qE (i:=1) rfl (by decide +kernel) (qK (v:=.string _) rfl) ?_
 refine wD (i:=3) rfl (by decide +kernel) ?_
 refine wX (v:=_) rfl rfl ((hc) 0 _ rfl) ?_
 refine wZ (i:=2) rfl (by decide +kernel) ?_
 refine wI (caps:=[]) (vs:=[.string _]) rfl rfl rfl (Clone_ok l h hl) ?_
 rintro _ h1 E1 rfl
 refine ⟨zJ E1 _, ?_⟩
 refine qE (i:=4) rfl (by decide +kernel) (zD (zc:=[_, _, _]) (vs:=[(0, .string _), (1, .string _), (2, _)]) (cs:=[_, _, _]) rfl rfl rfl rfl rfl rfl) ?_
 refine wU (i:=5) rfl (by decide +kernel) (by decide +kernel) ?_
 refine zC (v:=.agg #[.string _, .string _, _]) (cs:=[_, _, _]) rfl rfl fun b10 hb10 => ?_
 refine wJ [_] rfl ?_
 refine qE (i:=6) rfl (by decide +kernel) (wA (v:=.pointer (some ⟨b10, 0, none⟩)) rfl) ?_
 refine zB rfl ?_
 refine qQ ?_
 refine qJ (vs:=[_]) Tryz.results132 ⟨qG rfl rfl, trivial⟩ fun V => ?_
 exact ⟨(kX E1 (qN V)), _, rfl⟩
abbrev errV (k : Int) : Value := .iface 190 (.int .i64 k)
theorem toErr2_ok (f l : List UInt8) (h : AH) (ER : Errs h) (hl : l.length < 2 ^ 20) : FnT Tryz.prog 121 #[.string (bs f), .string (bs l), .int .i64 0, .int .i64 0, errV 2] h (fun v _ => ∃ t p, v = .iface t p) := by
 refine qW Tryz.func121 rfl Tryz.ntmps121 rfl ?_
 refine qC (qA rfl ?_)
 refine qB (wA (v:=_) rfl) ?_
 refine qC (qC (qA rfl ?_))
 refine qB (qK (v:=_) rfl) ?_
 refine qT ?_
 refine qC (qA rfl ?_)
 refine qB (wL (v:=_) rfl) ?_
 refine pvB rfl ?_
 refine asB rfl ?_
 refine wW rfl (rfl) ?_
 refine qC (qA rfl ?_)
 refine mvT rfl ?_
 refine mvT rfl ?_
 refine wI (caps:=[]) (vs:=[.string _, .string _]) rfl rfl rfl (synErr_ok f l h (ER.ext (Ext.refl _)) hl) ?_
 rintro _ h1 E1 ⟨a, rfl⟩
 refine qB (wL (v:=_) rfl) ?_
 refine qB (wA (v:=_) rfl) ?_
 refine qQ ?_
 refine qJ (vs:=[_]) Tryz.results121 ⟨qG rfl rfl, trivial⟩ fun V => ?_
 exact ⟨(kX E1 (qN V)), _, _, rfl⟩
theorem toErr1_ok (f l : List UInt8) (h : AH) (ER : Errs h) (hl : l.length < 2 ^ 20) : FnT Tryz.prog 121 #[.string (bs f), .string (bs l), .int .i64 0, .int .i64 0, errV 1] h (fun v _ => ∃ t p, v = .iface t p) := by
 refine qW Tryz.func121 rfl Tryz.ntmps121 rfl ?_
 refine qC (qA rfl ?_)
 refine qB (wA (v:=_) rfl) ?_
 refine qC (qC (qA rfl ?_))
 refine qB (qK (v:=_) rfl) ?_
 refine qT ?_
 refine qC (qA rfl ?_)
 refine qB (wL (v:=_) rfl) ?_
 refine pvB rfl ?_
 refine asB rfl ?_
 refine wS rfl (rfl) ?_
 refine qC (qA rfl ?_)
 refine qB (wL (v:=_) rfl) ?_
 refine pvB rfl ?_
 refine asB rfl ?_
 refine wW rfl (rfl) ?_
 refine qC (qA rfl ?_)
 refine mvT rfl ?_
 refine mvT rfl ?_
 refine wI (caps:=[]) (vs:=[.string _, .string _]) rfl rfl rfl (rngErr_ok f l h (ER.ext (Ext.refl _)) hl) ?_
 rintro _ h1 E1 ⟨a, rfl⟩
 refine qB (wL (v:=_) rfl) ?_
 refine qB (wA (v:=_) rfl) ?_
 refine qQ ?_
 refine qJ (vs:=[_]) Tryz.results121 ⟨qG rfl rfl, trivial⟩ fun V => ?_
 exact ⟨(kX E1 (qN V)), _, _, rfl⟩
def ErrV (e : Value) : Prop := e = .nilIface ∨ e = errV 1 ∨ e = errV 2
theorem lower_ok (c : Int) (h : AH) : FnT Tryz.prog 141 #[.int .u8 c] h (fun v _ => ∃ x : Int, v = .int .u8 x) := by
 refine qW Tryz.func141 rfl Tryz.ntmps141 rfl ?_
 refine qC (qA rfl ?_)
 refine asI rfl ?_
 refine qC (qA rfl ?_)
 refine mvI rfl ?_
 refine qB (wL (v:=.int .u8 _) rfl) ?_
 refine asI rfl ?_
 refine qQ ?_
 refine qJ (vs:=[_]) Tryz.results141 ⟨qG rfl rfl, trivial⟩ fun V => ?_
 exact ⟨(qN V), _, rfl⟩
theorem ParseUint_ok (l : List UInt8) (h : AH) (hl : l.length < 2 ^ 20) : FnT Tryz.prog 138 #[.string (bs l), .int .i64 10, .int .i64 0] h (fun v _ => ∃ (r : Nat) (e : Value), v = .tuple #[.int .u64 r, e] ∧ ErrV e) := by
 refine qW Tryz.func138 rfl Tryz.ntmps138 rfl ?_
 refine qC (qA rfl ?_)
 refine asI rfl ?_
 refine qB (wA (v:=_) rfl) ?_
 refine qC (qC (qA rfl ?_))
 refine mvT rfl ?_
 refine qB (yE rfl rfl) ?_
 refine qP rfl (fun h0 => ?_) (fun h0 => ?_)
 ·skip
  refine qC (qA rfl ?_)
  refine qB (wL (v:=_) rfl) ?_
  refine asI rfl ?_
  refine qB (wA (v:=_) rfl) ?_
  refine qQ ?_
  refine qJ (vs:=[_, _]) Tryz.results138 ⟨qG rfl rfl, qG rfl rfl, trivial⟩ fun V => ?_
  exact ⟨(qN V), 0, _, rfl, .inr (.inr rfl)⟩
 skip
 refine qM ?_
 refine qC (qA rfl ?_)
 refine mvI rfl ?_
 refine pvB rfl ?_
 refine asB rfl ?_
 refine qC (qA rfl ?_)
 refine mvT rfl ?_
 refine asT rfl ?_
 refine qC ?_
 refine qT ?_
 refine qC (qA rfl ?_)
 refine mvI rfl ?_
 refine pvB rfl ?_
 refine mvB rfl ?_
 refine qF rfl rfl ?_
 refine mvI rfl ?_
 refine qF rfl rfl ?_
 refine pvB rfl ?_
 refine qB (wN rfl rfl (v:=.bool _) rfl) ?_
 refine asB rfl ?_
 refine wW rfl (rfl) ?_
 refine qM ?_
 refine qC (qC (qA rfl ?_))
 refine mvI rfl ?_
 refine pvB rfl ?_
 refine wW rfl (rfl) ?_
 refine qA rfl ?_
 refine asI rfl ?_
 refine qC (qA rfl ?_)
 refine asI rfl ?_
 refine qC (qC (qA rfl ?_))
 refine mvI rfl ?_
 refine qT ?_
 refine qC (qA rfl ?_)
 refine pvB rfl ?_
 refine asB rfl ?_
 refine wW rfl (rfl) ?_
 refine qA rfl ?_
 refine asI rfl ?_
 refine qC (qA rfl ?_)
 refine mvI rfl ?_
 refine qB (wL (v:=.int _ 64) rfl) ?_
 refine qB (wL (v:=.int .u64 0) rfl) ?_
 refine qB (wL (v:=.int .u64 18446744073709551615) rfl) ?_
 refine asI rfl ?_
 refine qC (qA rfl ?_)
 refine asB rfl ?_
 refine qC (qA rfl ?_)
 refine asI rfl ?_
 refine qC (qC (qA rfl ?_))
 refine mvT rfl ?_
 refine op_open ?_
 refine op_s2b l rfl rfl rfl rfl fun b cap junk f hb => ?_
 refine ⟨rfl, _, _, rfl, fun h2 E2 hb2 => ?_⟩
 refine qB (wP rfl rfl) ?_
 refine mvI rfl ?_
 refine qT ?_
 refine zF [6, 7, 12, 13, 15, 16, 17, 101, 102, 103, 104, 105, 106, 107, 108, 109, 110, 111, 112, 113, 114, 115, 116, 117, 118, 119, 120, 121, 122, 123, 124, 125, 126, 127, 128, 129, 130, 131, 132, 133, 134, 135, 136, 137, 138, 139, 140, 141, 142, 143, 144, 145, 146, 147, 148, 149, 150, 151, 152, 153, 154, 155, 156, 157, 158, 159, 160, 161, 162, 163] 0 (α:=Nat × Nat) (fun ⟨k, r⟩ => [(101, .int .i64 k), (13, .int .u64 r), (12, .bool false)]) (fun ⟨k, r⟩ => _) (fun ⟨k, r⟩ h_k => k ≤ l.length) (fun ⟨k, r⟩ => l.length - k) ((0, 0)) ⟨rfl, rfl, rfl, trivial⟩ (rfl) (Nat.zero_le _) ?_
 rintro ⟨k, r⟩ T1 h_k E_k J_k
 refine qR [] rfl ?_
 refine qC (qA rfl ?_)
 refine pvB rfl ?_
 refine qC ?_
 refine qP rfl (fun hk => ?_) (fun hk => ?_)
 ·skip
  have hkl : k < l.length := ltI hk
  have hcell := (cells_front hb2).ext E_k k (.int .u8 l[k].toNat) (by rw [byC_map, List.getElem?_map, List.getElem?_eq_getElem hkl]; rfl)
  refine qM ?_
  refine qC ?_
  refine qT ?_
  refine qC (qA rfl ?_)
  refine qB (zK (m:=1) rfl rfl rfl rfl (by omega) (by omega)) ?_
  refine wX (v:=.int .u8 l[k].toNat) rfl rfl (by show cellA _ ⟨_, 0 + (k : Int).toNat * 1, none⟩ = _; rw [Int.toNat_natCast, Nat.mul_one]; exact hcell) ?_
  refine asI rfl ?_
  refine qC (qA rfl ?_)
  refine asI rfl ?_
  refine zU [6, 7, 12, 16, 105, 106, 107, 108, 109, 110, 111, 112, 113, 114, 115, 116, 117, 118, 119, 120, 121, 122, 123, 124, 125, 126, 127, 128, 129, 130, 131, 132, 133] 0 (α:=Int) (fun x => [(16, .int .u8 x), (12, .bool false)]) (fun x L => L) (fun x h_x => True) ?_ ?_
  ·skip
   refine qT ?_
   refine zU [106, 107, 108, 109, 110, 111] 0 (α:=Unit) (fun u3 => [(106, .bool (((l[k].toNat : Int) == 95) && (false)))]) (fun u3 L => L) (fun u3 h_u3 => True) ?_ ?_
   ·rcases Bool.eq_false_or_eq_true ((l[k].toNat : Int) == 95) with hg3 | hg3
    ·refine qA rfl ?_
     refine mvI rfl ?_
     refine pvB rfl ?_
     refine mvB rfl ?_
     refine qF rfl hg3 ?_
     refine mvB rfl ?_
     refine qB (wN rfl hg3 (v:=.bool _) rfl) ?_
     refine asB rfl ?_
     refine ⟨(), ⟨(by show Value.bool _ = _; rw [hg3]; rfl), trivial⟩, rfl, rfl, (Ext.refl _), fun h3 E3 => by first | trivial | omega | (refine ⟨?_, ?_⟩ <;> omega), ?_⟩
     repeat (first | exact wQ _ _ | exact qV _ _ _ | refine qX (by decide) ?_ | refine qU rfl ?_ | refine qY rfl ?_)
    refine qA rfl ?_
    refine mvI rfl ?_
    refine pvB rfl ?_
    refine mvB rfl ?_
    refine qI rfl hg3 ?_
    refine qB (wM rfl hg3 (v:=.bool _) rfl) ?_
    refine asB rfl ?_
    refine ⟨(), ⟨(by show Value.bool _ = _; rw [hg3]; rfl), trivial⟩, rfl, rfl, (Ext.refl _), fun h3 E3 => by first | trivial | omega | (refine ⟨?_, ?_⟩ <;> omega), ?_⟩
    repeat (first | exact wQ _ _ | exact qV _ _ _ | refine qX (by decide) ?_ | refine qU rfl ?_ | refine qY rfl ?_)
   rintro u3 T4 h_u3 E_u3 J_u3
   refine qR [] rfl ?_
   refine wS rfl ((by simp)) ?_
   refine zU [112, 113, 114, 115, 116, 117, 118] 0 (α:=Unit) (fun u5 => [(112, .bool ((decide ((48 : Int) ≤ l[k].toNat)) && (decide ((l[k].toNat : Int) ≤ 57))))]) (fun u5 L => L) (fun u5 h_u5 => True) ?_ ?_
   ·rcases Bool.eq_false_or_eq_true (decide ((48 : Int) ≤ l[k].toNat)) with hg5 | hg5
    ·refine qA rfl ?_
     refine mvI rfl ?_
     refine pvB rfl ?_
     refine mvB rfl ?_
     refine qF rfl hg5 ?_
     refine mvI rfl ?_
     refine qF rfl hg5 ?_
     refine pvB rfl ?_
     refine qB (wN rfl hg5 (v:=.bool _) rfl) ?_
     refine asB rfl ?_
     refine ⟨(), ⟨(by show Value.bool _ = _; rw [hg5]; rfl), trivial⟩, rfl, rfl, (Ext.refl _), fun h3 E3 => by first | trivial | omega | (refine ⟨?_, ?_⟩ <;> omega), ?_⟩
     repeat (first | exact wQ _ _ | exact qV _ _ _ | refine qX (by decide) ?_ | refine qU rfl ?_ | refine qY rfl ?_)
    refine qA rfl ?_
    refine mvI rfl ?_
    refine pvB rfl ?_
    refine mvB rfl ?_
    refine qI rfl hg5 ?_
    refine qI rfl hg5 ?_
    refine qB (wM rfl hg5 (v:=.bool _) rfl) ?_
    refine asB rfl ?_
    refine ⟨(), ⟨(by show Value.bool _ = _; rw [hg5]; rfl), trivial⟩, rfl, rfl, (Ext.refl _), fun h3 E3 => by first | trivial | omega | (refine ⟨?_, ?_⟩ <;> omega), ?_⟩
    repeat (first | exact wQ _ _ | exact qV _ _ _ | refine qX (by decide) ?_ | refine qU rfl ?_ | refine qY rfl ?_)
   rintro u5 T6 h_u5 E_u5 J_u5
   refine qR [] rfl ?_
   refine qP rfl (fun hd => ?_) (fun hd => ?_)
   ·skip
    refine qA rfl ?_
    refine mvI rfl ?_
    refine qB (wL (v:=.int .u8 _) rfl) ?_
    refine asI rfl ?_
    refine ⟨_, ⟨rfl, rfl, trivial⟩, rfl, rfl, (kX E_u3 E_u5), fun h3 E3 => by first | trivial | omega | (refine ⟨?_, ?_⟩ <;> omega), ?_⟩
    repeat (first | exact wQ _ _ | exact qV _ _ _ | refine qX (by decide) ?_ | refine qU rfl ?_ | refine qY rfl ?_)
   skip
   refine zU [121, 122, 123, 124, 125, 126, 127, 128, 129] 0 (α:=Bool) (fun q => [(121, .bool q)]) (fun q L => L) (fun q h_q => True) ?_ ?_
   ·skip
    refine qA rfl ?_
    refine mvI rfl ?_
    refine wI (caps:=[]) (vs:=[.int .u8 _]) rfl rfl rfl (lower_ok _ h_u5) ?_
    rintro _ h3 E3 ⟨x1, rfl⟩
    refine pvB rfl ?_
    refine mvB rfl ?_
    rcases Bool.eq_false_or_eq_true (decide ((97 : Int) ≤ x1)) with hg | hg
    ·skip
     refine qF rfl hg ?_
     refine mvI rfl ?_
     refine qF rfl hg ?_
     refine wI (caps:=[]) (vs:=[.int .u8 _]) rfl rfl rfl (lower_ok _ h3) ?_
     rintro _ h4 E4 ⟨x2, rfl⟩
     refine qF rfl hg ?_
     refine pvB rfl ?_
     refine qB (wN rfl hg (v:=.bool _) rfl) ?_
     refine asB rfl ?_
     refine ⟨_, ⟨rfl, trivial⟩, rfl, rfl, (kX E3 E4), fun h3 E3 => by first | trivial | omega | (refine ⟨?_, ?_⟩ <;> omega), ?_⟩
     repeat (first | exact wQ _ _ | exact qV _ _ _ | refine qX (by decide) ?_ | refine qU rfl ?_ | refine qY rfl ?_)
    skip
    refine qI rfl hg ?_
    refine qI rfl hg ?_
    refine qI rfl hg ?_
    refine qB (wM rfl hg (v:=.bool _) rfl) ?_
    refine asB rfl ?_
    refine ⟨_, ⟨rfl, trivial⟩, rfl, rfl, E3, fun h3 E3 => by first | trivial | omega | (refine ⟨?_, ?_⟩ <;> omega), ?_⟩
    repeat (first | exact wQ _ _ | exact qV _ _ _ | refine qX (by decide) ?_ | refine qU rfl ?_ | refine qY rfl ?_)
   rintro q T7 h_q E_q J_q
   refine qR [] rfl ?_
   refine qP rfl (fun hq => ?_) (fun hq => ?_)
   ·skip
    refine qA rfl ?_
    refine mvI rfl ?_
    refine wI (caps:=[]) (vs:=[.int .u8 _]) rfl rfl rfl (lower_ok _ h_q) ?_
    rintro _ h5 E5 ⟨x3, rfl⟩
    refine qB (wL (v:=.int .u8 _) rfl) ?_
    refine qB (wL (v:=.int .u8 _) rfl) ?_
    refine asI rfl ?_
    refine ⟨_, ⟨rfl, rfl, trivial⟩, rfl, rfl, (kX (kX (kX E_u3 E_u5) E_q) E5), fun h3 E3 => by first | trivial | omega | (refine ⟨?_, ?_⟩ <;> omega), ?_⟩
    repeat (first | exact wQ _ _ | exact qV _ _ _ | refine qX (by decide) ?_ | refine qU rfl ?_ | refine qY rfl ?_)
   skip
   refine qC (qA rfl ?_)
   refine qB (wL (v:=_) rfl) ?_
   refine asI rfl ?_
   refine qB (wA (v:=_) rfl) ?_
   refine qQ ?_
   refine qJ (vs:=[_, _]) Tryz.results138 ⟨qG rfl rfl, qG rfl rfl, trivial⟩ fun V => ?_
   exact ⟨(kX (kX (kX (kX (kX E2 E_k) E_u3) E_u5) E_q) (qN V)), 0, _, rfl, .inr (.inr rfl)⟩
  rintro x T2 h_x E_x J_x
  refine qR [] rfl ?_
  refine qC (qC (qA rfl ?_))
  refine mvI rfl ?_
  refine mvI rfl ?_
  refine qB (vG (z':=10) rfl rfl rfl rfl) ?_
  refine pvB rfl ?_
  refine qP rfl (fun hx => ?_) (fun hx => ?_)
  ·skip
   refine qC (qA rfl ?_)
   refine qB (wL (v:=_) rfl) ?_
   refine asI rfl ?_
   refine qB (wA (v:=_) rfl) ?_
   refine qQ ?_
   refine qJ (vs:=[_, _]) Tryz.results138 ⟨qG rfl rfl, qG rfl rfl, trivial⟩ fun V => ?_
   exact ⟨(kX (kX (kX E2 E_k) E_x) (qN V)), 0, _, rfl, .inr (.inr rfl)⟩
  skip
  refine qM ?_
  refine qC (qC (qA rfl ?_))
  refine mvI rfl ?_
  refine mvI rfl ?_
  refine pvB rfl ?_
  refine qP rfl (fun hy => ?_) (fun hy => ?_)
  ·skip
   refine qC (qA rfl ?_)
   refine mvI rfl ?_
   refine qB (wL (v:=_) rfl) ?_
   refine asI rfl ?_
   refine qB (wA (v:=_) rfl) ?_
   refine qQ ?_
   refine qJ (vs:=[_, _]) Tryz.results138 ⟨qG rfl rfl, qG rfl rfl, trivial⟩ fun V => ?_
   exact ⟨(kX (kX (kX E2 E_k) E_x) (qN V)), 18446744073709551615, _, rfl, .inr (.inl rfl)⟩
  skip
  refine qM ?_
  refine qC (qA rfl ?_)
  refine mvI rfl ?_
  refine mvI rfl ?_
  refine qB (vG (z':=10) rfl rfl rfl rfl) ?_
  refine op_some rfl fun r1 hr1 => ?_
  refine asI rfl ?_
  refine qC (qA rfl ?_)
  refine mvI rfl ?_
  refine mvI rfl ?_
  refine op_some rfl fun r2 hr2 => ?_
  refine op_some rfl fun r3 hr3 => ?_
  refine asI rfl ?_
  refine qC ?_
  refine zU [152, 153, 154, 155, 156, 157, 158, 159] 0 (α:=Unit) (fun u8 => [(159, .bool ((decide ((r3 : Int) < r1)) || (decide ((r3 : Int) > 18446744073709551615))))]) (fun u8 L => L) (fun u8 h_u8 => True) ?_ ?_
  ·rcases Bool.eq_false_or_eq_true (decide ((r3 : Int) < r1)) with hg8 | hg8
   ·refine qA rfl ?_
    refine mvI rfl ?_
    refine mvI rfl ?_
    refine pvB rfl ?_
    refine mvB rfl ?_
    refine qI rfl hg8 ?_
    refine qI rfl hg8 ?_
    refine qI rfl hg8 ?_
    refine qB (wN rfl hg8 (v:=.bool _) rfl) ?_
    refine ⟨(), ⟨(by show Value.bool _ = _; rw [hg8]; rfl), trivial⟩, rfl, rfl, (Ext.refl _), fun h3 E3 => by first | trivial | omega | (refine ⟨?_, ?_⟩ <;> omega), ?_⟩
    repeat (first | exact wQ _ _ | exact qV _ _ _ | refine qX (by decide) ?_ | refine qU rfl ?_ | refine qY rfl ?_)
   refine qA rfl ?_
   refine mvI rfl ?_
   refine mvI rfl ?_
   refine pvB rfl ?_
   refine mvB rfl ?_
   refine qF rfl hg8 ?_
   refine mvI rfl ?_
   refine qF rfl hg8 ?_
   refine mvI rfl ?_
   refine qF rfl hg8 ?_
   refine pvB rfl ?_
   refine qB (wM rfl hg8 (v:=.bool _) rfl) ?_
   refine ⟨(), ⟨(by show Value.bool _ = _; rw [hg8]; rfl), trivial⟩, rfl, rfl, (Ext.refl _), fun h3 E3 => by first | trivial | omega | (refine ⟨?_, ?_⟩ <;> omega), ?_⟩
   repeat (first | exact wQ _ _ | exact qV _ _ _ | refine qX (by decide) ?_ | refine qU rfl ?_ | refine qY rfl ?_)
  rintro u8 T9 h_u8 E_u8 J_u8
  refine qR [] rfl ?_
  refine qP rfl (fun hz => ?_) (fun hz => ?_)
  ·skip
   refine qC (qA rfl ?_)
   refine mvI rfl ?_
   refine qB (wL (v:=_) rfl) ?_
   refine asI rfl ?_
   refine qB (wA (v:=_) rfl) ?_
   refine qQ ?_
   refine qJ (vs:=[_, _]) Tryz.results138 ⟨qG rfl rfl, qG rfl rfl, trivial⟩ fun V => ?_
   exact ⟨(kX (kX (kX (kX E2 E_k) E_x) E_u8) (qN V)), 18446744073709551615, _, rfl, .inr (.inl rfl)⟩
  skip
  refine qM ?_
  refine qA rfl ?_
  refine mvI rfl ?_
  refine asI rfl ?_
  refine qA rfl ?_
  refine qB (qO rfl (by omega)) ?_
  refine mvI rfl ?_
  refine ⟨(k + 1, r3), ⟨rfl, rfl, rfl, trivial⟩, rfl, rfl, (kX (kX E_k E_x) E_u8), fun h3 E3 => hkl, by first | omega | (dsimp only; omega), ?_⟩
  repeat (first | exact qV _ _ _ | refine qX (by decide) ?_ | refine qU rfl ?_ | refine qY rfl ?_)
 skip
 refine wV ?_
 refine qC (qC (qA rfl ?_))
 refine mvB rfl ?_
 refine mvB rfl ?_
 refine qI rfl rfl ?_
 refine qI rfl rfl ?_
 refine qI rfl rfl ?_
 refine qB (wM rfl rfl (v:=.bool _) rfl) ?_
 refine wS rfl (rfl) ?_
 refine qM ?_
 refine qC (qA rfl ?_)
 refine mvI rfl ?_
 refine asI rfl ?_
 refine qB (wA (v:=_) rfl) ?_
 refine qQ ?_
 refine qJ (vs:=[_, _]) Tryz.results138 ⟨qG rfl rfl, qG rfl rfl, trivial⟩ fun V => ?_
 exact ⟨(kX (kX E2 E_k) (qN V)), r, _, rfl, .inl rfl⟩
end
end Go.Proofs.YtboigjfgpppeaaaGreatDoor
namespace Go.Proofs.YtboigjfgpppeaaaGreatDoor
open Go Go.HL Go.Proofs Go.Wx Go.Rd
section
variable [Lvl]
set_option maxRecDepth 100000
theorem u8_eqI {c k : UInt8} (h : ((c.toNat : Int) == (k.toNat : Int)) = true) : c = k := UInt8.toNat_inj.1 (Int.ofNat.inj (by simpa using h))
theorem ParseInt_ok (l : List UInt8) (h : AH) (hl : l.length < 2 ^ 20) : FnT Tryz.prog 130 #[.string (bs l), .int .i64 10, .int .i64 0] h (fun v _ => ∃ (r : Int) (e : Value), v = .tuple #[.int .i64 r, e] ∧ ErrV e ∧ (l = [] → e = errV 2)) := by
 refine qW Tryz.func130 rfl Tryz.ntmps130 rfl ?_
 refine qC (qA rfl ?_)
 refine asI rfl ?_
 refine qB (wA (v:=_) rfl) ?_
 refine qC (qC (qA rfl ?_))
 refine mvT rfl ?_
 refine qB (yE rfl rfl) ?_
 refine qP rfl (fun h0 => ?_) (fun h0 => ?_)
 ·skip
  refine qC (qA rfl ?_)
  refine qB (wL (v:=_) rfl) ?_
  refine asI rfl ?_
  refine qB (wA (v:=_) rfl) ?_
  refine qQ ?_
  refine qJ (vs:=[_, _]) Tryz.results130 ⟨qG rfl rfl, qG rfl rfl, trivial⟩ fun V => ?_
  exact ⟨(qN V), 0, _, rfl, .inr (.inr rfl), fun _ => rfl⟩
 skip
 have h0' : ¬ l = [] := of_decide_eq_false h0
 obtain ⟨c, l2, hcl⟩ : ∃ c l2, l = c :: l2 := by
  cases l with
  | nil => exact absurd rfl h0'
  | cons c l2 => exact ⟨c, l2, rfl⟩
 have hll : l2.length + 1 = l.length := by rw [hcl]; rfl
 refine qM ?_
 refine qC (qA rfl ?_)
 refine asB rfl ?_
 refine zU [0, 8, 15, 16, 17, 18, 19, 20, 21, 22, 23, 24] 0 (α:=Bool × List UInt8) (fun ⟨ng, s2⟩ => [(0, .string (bs s2)), (8, .bool ng)]) (fun ⟨ng, s2⟩ L => L) (fun ⟨ng, s2⟩ h_ng => s2.length ≤ l.length) ?_ ?_
 ·skip
  refine qC (qA rfl ?_)
  refine mvT rfl ?_
  refine qB (zY (c:=c) 0 rfl rfl rfl rfl (by rw [hcl]; rfl)) ?_
  refine qT ?_
  refine qC (qA rfl ?_)
  refine pvB rfl ?_
  refine asB rfl ?_
  refine qP rfl (fun hp => ?_) (fun hp => ?_)
  ·skip
   refine qA rfl ?_
   refine mvT rfl ?_
   refine qB (yA 1 l.length rfl rfl (.inr ⟨_, _, rfl, rfl⟩) (.inl ⟨rfl, rfl⟩) (by omega) (Nat.le_refl _)) ?_
   refine asT rfl ?_
   refine ⟨(false, (l.take l.length).drop 1), ⟨rfl, rfl, trivial⟩, rfl, rfl, (Ext.refl _), fun h3 E3 => by show ((l.take l.length).drop 1).length ≤ _; rw [List.length_drop, List.length_take]; omega, ?_⟩
   repeat (first | exact wQ _ _ | exact qV _ _ _ | refine qX (by decide) ?_ | refine qU rfl ?_ | refine qY rfl ?_)
  skip
  refine qC (qA rfl ?_)
  refine pvB rfl ?_
  refine asB rfl ?_
  refine qP rfl (fun hm => ?_) (fun hm => ?_)
  ·skip
   refine qC (qA rfl ?_)
   refine mvT rfl ?_
   refine qB (yA 1 l.length rfl rfl (.inr ⟨_, _, rfl, rfl⟩) (.inl ⟨rfl, rfl⟩) (by omega) (Nat.le_refl _)) ?_
   refine asT rfl ?_
   refine qA rfl ?_
   refine asB rfl ?_
   refine ⟨(true, (l.take l.length).drop 1), ⟨rfl, rfl, trivial⟩, rfl, rfl, (Ext.refl _), fun h3 E3 => by show ((l.take l.length).drop 1).length ≤ _; rw [List.length_drop, List.length_take]; omega, ?_⟩
   repeat (first | exact wQ _ _ | exact qV _ _ _ | refine qX (by decide) ?_ | refine qU rfl ?_ | refine qY rfl ?_)
  skip
  refine qM ?_
  refine ⟨(false, l), ⟨rfl, rfl, trivial⟩, rfl, rfl, (Ext.refl _), fun h3 E3 => Nat.le_refl _, ?_⟩
  repeat (first | exact wQ _ _ | exact qV _ _ _ | refine qX (by decide) ?_ | refine qU rfl ?_ | refine qY rfl ?_)
 rintro ⟨ng, s2⟩ T1 h_ng E_ng J_ng
 refine qR [] rfl ?_
 refine qC (qA rfl ?_)
 refine asI rfl ?_
 refine qC (qA rfl ?_)
 refine mvT rfl ?_
 refine mvI rfl ?_
 refine mvI rfl ?_
 refine wI (caps:=[]) (vs:=[.string _, .int .i64 _, .int .i64 _]) rfl rfl rfl (ParseUint_ok s2 h_ng (by omega)) ?_
 rintro _ h1 E1 ⟨r, e, rfl, he⟩
 refine qB (qK (v:=.tuple #[.int .u64 _, _]) rfl) ?_
 refine qB (wL (v:=.int .u64 _) rfl) ?_
 refine qB (wL (v:=_) rfl) ?_
 refine asI rfl ?_
 refine qB (wA (v:=_) rfl) ?_
 rcases he with rfl | rfl | rfl
 ·skip
  refine qC (qC (qA rfl ?_))
  refine qB (qK (v:=_) rfl) ?_
  refine pvB rfl ?_
  refine mvB rfl ?_
  refine qI rfl rfl ?_
  refine qI rfl rfl ?_
  refine qI rfl rfl ?_
  refine qB (wM rfl rfl (v:=.bool _) rfl) ?_
  refine wS rfl (rfl) ?_
  refine qM ?_
  refine qC (qC (qA rfl ?_))
  refine mvI rfl ?_
  refine pvB rfl ?_
  refine wW rfl (rfl) ?_
  refine qA rfl ?_
  refine asI rfl ?_
  refine qC (qA rfl ?_)
  refine mvI rfl ?_
  refine qB (qO rfl (by omega)) ?_
  refine qB (wL (v:=.int _ 63) rfl) ?_
  refine qB (wL (v:=.int .u64 9223372036854775808) rfl) ?_
  refine asI rfl ?_
  cases ng
  ·skip
   refine qC (qC (qA rfl ?_))
   refine mvB rfl ?_
   refine pvB rfl ?_
   refine mvB rfl ?_
   refine qF rfl rfl ?_
   refine mvI rfl ?_
   refine qF rfl rfl ?_
   refine mvI rfl ?_
   refine qF rfl rfl ?_
   refine pvB rfl ?_
   refine qB (wN rfl rfl (v:=.bool _) rfl) ?_
   refine qP rfl (fun hx => ?_) (fun hx => ?_)
   ·skip
    refine qC (qA rfl ?_)
    refine mvI rfl ?_
    refine qB (wL (v:=.int .u64 9223372036854775807) rfl) ?_
    refine qB (wL (v:=.int .i64 9223372036854775807) rfl) ?_
    refine qB (wL (v:=_) rfl) ?_
    refine asI rfl ?_
    refine qB (wA (v:=_) rfl) ?_
    refine qQ ?_
    refine qJ (vs:=[_, _]) Tryz.results130 ⟨qG rfl rfl, qG rfl rfl, trivial⟩ fun V => ?_
    exact ⟨(kX (kX E_ng E1) (qN V)), _, _, rfl, .inr (.inl rfl), fun e => absurd e h0'⟩
   skip
   refine qM ?_
   refine qC (qC (qA rfl ?_))
   refine mvB rfl ?_
   refine mvB rfl ?_
   refine qI rfl rfl ?_
   refine qI rfl rfl ?_
   refine qI rfl rfl ?_
   refine qB (wM rfl rfl (v:=.bool _) rfl) ?_
   refine wS rfl (rfl) ?_
   refine qM ?_
   refine qC (qA rfl ?_)
   refine mvI rfl ?_
   refine qB (wL (v:=.int .i64 _) rfl) ?_
   refine asI rfl ?_
   refine qC (qC (qA rfl ?_))
   refine mvB rfl ?_
   refine wS rfl (rfl) ?_
   refine qM ?_
   refine qC (qA rfl ?_)
   refine mvI rfl ?_
   refine asI rfl ?_
   refine qB (wA (v:=_) rfl) ?_
   refine qQ ?_
   refine qJ (vs:=[_, _]) Tryz.results130 ⟨qG rfl rfl, qG rfl rfl, trivial⟩ fun V => ?_
   exact ⟨(kX (kX E_ng E1) (qN V)), _, _, rfl, .inl rfl, fun e => absurd e h0'⟩
  skip
  refine qC (qC (qA rfl ?_))
  refine mvB rfl ?_
  refine pvB rfl ?_
  refine mvB rfl ?_
  refine qI rfl rfl ?_
  refine qI rfl rfl ?_
  refine qI rfl rfl ?_
  refine qB (wM rfl rfl (v:=.bool _) rfl) ?_
  refine wS rfl (rfl) ?_
  refine qM ?_
  refine qC (qC (qA rfl ?_))
  refine mvB rfl ?_
  refine mvB rfl ?_
  refine qF rfl rfl ?_
  refine mvI rfl ?_
  refine qF rfl rfl ?_
  refine mvI rfl ?_
  refine qF rfl rfl ?_
  refine pvB rfl ?_
  refine qB (wN rfl rfl (v:=.bool _) rfl) ?_
  refine qP rfl (fun hx => ?_) (fun hx => ?_)
  ·skip
   refine qC (qA rfl ?_)
   refine mvI rfl ?_
   refine qB (wL (v:=.int .i64 (-9223372036854775808)) rfl) ?_
   refine qB (wL (v:=.int .i64 (-9223372036854775808)) rfl) ?_
   refine qB (wL (v:=_) rfl) ?_
   refine asI rfl ?_
   refine qB (wA (v:=_) rfl) ?_
   refine qQ ?_
   refine qJ (vs:=[_, _]) Tryz.results130 ⟨qG rfl rfl, qG rfl rfl, trivial⟩ fun V => ?_
   exact ⟨(kX (kX E_ng E1) (qN V)), _, _, rfl, .inr (.inl rfl), fun e => absurd e h0'⟩
  skip
  refine qM ?_
  refine qC (qA rfl ?_)
  refine mvI rfl ?_
  refine qB (wL (v:=.int .i64 _) rfl) ?_
  refine asI rfl ?_
  refine qC (qC (qA rfl ?_))
  refine mvB rfl ?_
  refine wW rfl (rfl) ?_
  refine qA rfl ?_
  refine mvI rfl ?_
  refine qB (wL (v:=.int .i64 _) rfl) ?_
  refine asI rfl ?_
  refine qC (qA rfl ?_)
  refine mvI rfl ?_
  refine asI rfl ?_
  refine qB (wA (v:=_) rfl) ?_
  refine qQ ?_
  refine qJ (vs:=[_, _]) Tryz.results130 ⟨qG rfl rfl, qG rfl rfl, trivial⟩ fun V => ?_
  exact ⟨(kX (kX E_ng E1) (qN V)), _, _, rfl, .inl rfl, fun e => absurd e h0'⟩
 ·skip
  refine qC (qC (qA rfl ?_))
  refine qB (qK (v:=_) rfl) ?_
  refine pvB rfl ?_
  refine mvB rfl ?_
  refine qF rfl rfl ?_
  refine qB (qK (v:=_) rfl) ?_
  refine qF rfl rfl ?_
  refine qB (wL (v:=_) rfl) ?_
  refine qF rfl rfl ?_
  refine pvB rfl ?_
  refine qB (wN rfl rfl (v:=.bool _) rfl) ?_
  refine wS rfl (rfl) ?_
  refine qM ?_
  refine qC (qC (qA rfl ?_))
  refine mvI rfl ?_
  refine pvB rfl ?_
  refine wW rfl (rfl) ?_
  refine qA rfl ?_
  refine asI rfl ?_
  refine qC (qA rfl ?_)
  refine mvI rfl ?_
  refine qB (qO rfl (by omega)) ?_
  refine qB (wL (v:=.int _ 63) rfl) ?_
  refine qB (wL (v:=.int .u64 9223372036854775808) rfl) ?_
  refine asI rfl ?_
  cases ng
  ·skip
   refine qC (qC (qA rfl ?_))
   refine mvB rfl ?_
   refine pvB rfl ?_
   refine mvB rfl ?_
   refine qF rfl rfl ?_
   refine mvI rfl ?_
   refine qF rfl rfl ?_
   refine mvI rfl ?_
   refine qF rfl rfl ?_
   refine pvB rfl ?_
   refine qB (wN rfl rfl (v:=.bool _) rfl) ?_
   refine qP rfl (fun hx => ?_) (fun hx => ?_)
   ·skip
    refine qC (qA rfl ?_)
    refine mvI rfl ?_
    refine qB (wL (v:=.int .u64 9223372036854775807) rfl) ?_
    refine qB (wL (v:=.int .i64 9223372036854775807) rfl) ?_
    refine qB (wL (v:=_) rfl) ?_
    refine asI rfl ?_
    refine qB (wA (v:=_) rfl) ?_
    refine qQ ?_
    refine qJ (vs:=[_, _]) Tryz.results130 ⟨qG rfl rfl, qG rfl rfl, trivial⟩ fun V => ?_
    exact ⟨(kX (kX E_ng E1) (qN V)), _, _, rfl, .inr (.inl rfl), fun e => absurd e h0'⟩
   skip
   refine qM ?_
   refine qC (qC (qA rfl ?_))
   refine mvB rfl ?_
   refine mvB rfl ?_
   refine qI rfl rfl ?_
   refine qI rfl rfl ?_
   refine qI rfl rfl ?_
   refine qB (wM rfl rfl (v:=.bool _) rfl) ?_
   refine wS rfl (rfl) ?_
   refine qM ?_
   refine qC (qA rfl ?_)
   refine mvI rfl ?_
   refine qB (wL (v:=.int .i64 _) rfl) ?_
   refine asI rfl ?_
   refine qC (qC (qA rfl ?_))
   refine mvB rfl ?_
   refine wS rfl (rfl) ?_
   refine qM ?_
   refine qC (qA rfl ?_)
   refine mvI rfl ?_
   refine asI rfl ?_
   refine qB (wA (v:=_) rfl) ?_
   refine qQ ?_
   refine qJ (vs:=[_, _]) Tryz.results130 ⟨qG rfl rfl, qG rfl rfl, trivial⟩ fun V => ?_
   exact ⟨(kX (kX E_ng E1) (qN V)), _, _, rfl, .inl rfl, fun e => absurd e h0'⟩
  skip
  refine qC (qC (qA rfl ?_))
  refine mvB rfl ?_
  refine pvB rfl ?_
  refine mvB rfl ?_
  refine qI rfl rfl ?_
  refine qI rfl rfl ?_
  refine qI rfl rfl ?_
  refine qB (wM rfl rfl (v:=.bool _) rfl) ?_
  refine wS rfl (rfl) ?_
  refine qM ?_
  refine qC (qC (qA rfl ?_))
  refine mvB rfl ?_
  refine mvB rfl ?_
  refine qF rfl rfl ?_
  refine mvI rfl ?_
  refine qF rfl rfl ?_
  refine mvI rfl ?_
  refine qF rfl rfl ?_
  refine pvB rfl ?_
  refine qB (wN rfl rfl (v:=.bool _) rfl) ?_
  refine qP rfl (fun hx => ?_) (fun hx => ?_)
  ·skip
   refine qC (qA rfl ?_)
   refine mvI rfl ?_
   refine qB (wL (v:=.int .i64 (-9223372036854775808)) rfl) ?_
   refine qB (wL (v:=.int .i64 (-9223372036854775808)) rfl) ?_
   refine qB (wL (v:=_) rfl) ?_
   refine asI rfl ?_
   refine qB (wA (v:=_) rfl) ?_
   refine qQ ?_
   refine qJ (vs:=[_, _]) Tryz.results130 ⟨qG rfl rfl, qG rfl rfl, trivial⟩ fun V => ?_
   exact ⟨(kX (kX E_ng E1) (qN V)), _, _, rfl, .inr (.inl rfl), fun e => absurd e h0'⟩
  skip
  refine qM ?_
  refine qC (qA rfl ?_)
  refine mvI rfl ?_
  refine qB (wL (v:=.int .i64 _) rfl) ?_
  refine asI rfl ?_
  refine qC (qC (qA rfl ?_))
  refine mvB rfl ?_
  refine wW rfl (rfl) ?_
  refine qA rfl ?_
  refine mvI rfl ?_
  refine qB (wL (v:=.int .i64 _) rfl) ?_
  refine asI rfl ?_
  refine qC (qA rfl ?_)
  refine mvI rfl ?_
  refine asI rfl ?_
  refine qB (wA (v:=_) rfl) ?_
  refine qQ ?_
  refine qJ (vs:=[_, _]) Tryz.results130 ⟨qG rfl rfl, qG rfl rfl, trivial⟩ fun V => ?_
  exact ⟨(kX (kX E_ng E1) (qN V)), _, _, rfl, .inl rfl, fun e => absurd e h0'⟩
 skip
 refine qC (qC (qA rfl ?_))
 refine qB (qK (v:=_) rfl) ?_
 refine pvB rfl ?_
 refine mvB rfl ?_
 refine qF rfl rfl ?_
 refine qB (qK (v:=_) rfl) ?_
 refine qF rfl rfl ?_
 refine qB (wL (v:=_) rfl) ?_
 refine qF rfl rfl ?_
 refine pvB rfl ?_
 refine qB (wN rfl rfl (v:=.bool _) rfl) ?_
 refine wW rfl (rfl) ?_
 refine qC (qA rfl ?_)
 refine qB (qK (v:=_) rfl) ?_
 refine asI rfl ?_
 refine qB (wA (v:=_) rfl) ?_
 refine qQ ?_
 refine qJ (vs:=[_, _]) Tryz.results130 ⟨qG rfl rfl, qG rfl rfl, trivial⟩ fun V => ?_
 exact ⟨(kX (kX E_ng E1) (qN V)), _, _, rfl, .inr (.inr rfl), fun e => absurd e h0'⟩
def AtoR (l : List UInt8) (n : Int) (e : Value) : Prop := ErrV e ∧ (l.length < 19 → ∀ m, atoiF l = some m → n = m ∧ e = .nilIface) ∧ (l.length < 19 → atoiF l = none → e ≠ .nilIface)
set_option maxHeartbeats 1000000 in
theorem atoi1_ok (l : List UInt8) (h : AH) (hl : l.length < 2 ^ 20) : FnT Tryz.prog 120 #[.string (bs l)] h (fun v _ => ∃ (n : Int) (e : Value), v = .tuple #[.int .i64 n, e] ∧ AtoR l n e) := by
 refine qW Tryz.func120 rfl Tryz.ntmps120 rfl ?_
 refine qC (qA rfl ?_)
 refine asI rfl ?_
 refine qB (wA (v:=_) rfl) ?_
 refine qC (qA rfl ?_)
 refine mvT rfl ?_
 refine qB (zA rfl rfl) ?_
 refine asI rfl ?_
 refine qC (qC (qA rfl ?_))
 refine mvB rfl ?_
 by_cases h0 : l = []
 ·have g0 : decide ((0 : Int) < l.length) = false := by rw [h0]; rfl
  refine qI rfl rfl ?_
  refine qI rfl rfl ?_
  refine qI rfl rfl ?_
  refine zG rfl ?_
  refine zG rfl ?_
  refine qI rfl rfl ?_
  refine qB (wM rfl rfl (v:=.bool _) rfl) ?_
  refine mvB rfl ?_
  refine qF rfl rfl ?_
  refine mvB rfl ?_
  refine qF rfl rfl ?_
  refine mvI rfl ?_
  refine qF rfl rfl ?_
  refine pvB rfl ?_
  refine qF rfl rfl ?_
  refine mvB rfl ?_
  refine qI rfl g0 ?_
  refine qI rfl g0 ?_
  refine qF rfl rfl ?_
  refine qB (wM rfl g0 (v:=.bool _) rfl) ?_
  refine qF rfl rfl ?_
  refine qB (wN rfl rfl (v:=.bool _) rfl) ?_
  refine qB (wM rfl rfl (v:=.bool _) rfl) ?_
  refine wS rfl (rfl) ?_
  refine qM ?_
  refine qC (qA rfl ?_)
  refine mvT rfl ?_
  refine wI (caps:=[]) (vs:=[.string _, .int .i64 _, .int .i64 _]) rfl rfl rfl (ParseInt_ok l h hl) ?_
  rintro _ h1 E1 ⟨r, e, rfl, he, hz⟩
  refine qB (qK (v:=.tuple #[.int .i64 _, _]) rfl) ?_
  refine qB (wL (v:=.int .i64 _) rfl) ?_
  refine qB (wL (v:=_) rfl) ?_
  refine asI rfl ?_
  refine qB (wA (v:=_) rfl) ?_
  refine qC (qA rfl ?_)
  refine mvI rfl ?_
  refine qB (qK (v:=_) rfl) ?_
  refine asI rfl ?_
  refine qB (wA (v:=_) rfl) ?_
  refine qQ ?_
  refine qJ (vs:=[_, _]) Tryz.results120 ⟨qG rfl rfl, qG rfl rfl, trivial⟩ fun V => ?_
  exact ⟨(kX E1 (qN V)), r, e, rfl, he, (fun _ => (by intro m hm; rw [h0] at hm; cases hm)), fun _ _ => (by rw [hz h0]; simp)⟩
 skip
 obtain ⟨c, l2, hcl⟩ : ∃ c l2, l = c :: l2 := by
  cases l with
  | nil => exact absurd rfl h0
  | cons c l2 => exact ⟨c, l2, rfl⟩
 have hll : l2.length + 1 = l.length := by rw [hcl]; rfl
 have g0 : decide ((0 : Int) < l.length) = true := decide_eq_true (by omega)
 refine qI rfl rfl ?_
 refine qI rfl rfl ?_
 refine qI rfl rfl ?_
 refine zG rfl ?_
 refine zG rfl ?_
 refine qI rfl rfl ?_
 refine qB (wM rfl rfl (v:=.bool _) rfl) ?_
 refine mvB rfl ?_
 refine qF rfl rfl ?_
 refine mvB rfl ?_
 refine qF rfl rfl ?_
 refine mvI rfl ?_
 refine qF rfl rfl ?_
 refine pvB rfl ?_
 refine qF rfl rfl ?_
 refine mvB rfl ?_
 refine qF rfl g0 ?_
 refine mvI rfl ?_
 refine qF rfl g0 ?_
 refine pvB rfl ?_
 refine qF rfl rfl ?_
 refine qB (wN rfl g0 (v:=.bool _) rfl) ?_
 refine qF rfl rfl ?_
 refine qB (wN rfl rfl (v:=.bool _) rfl) ?_
 refine qB (wM rfl rfl (v:=.bool _) rfl) ?_
 refine qP rfl (fun h19 => ?_) (fun h19 => ?_)
 ·skip
  have h19' : l.length < 19 := by have := of_decide_eq_true h19; omega
  refine qC (qA rfl ?_)
  refine mvT rfl ?_
  refine asT rfl ?_
  refine zU [0, 2, 3, 32, 33, 34, 35, 36, 37, 38, 39, 40, 41, 42, 43, 44, 45] 0 (α:=List UInt8) (fun s2 => [(0, .string (bs s2)), (5, .string (bs l))]) (fun s2 L => L) (fun s2 h_s2 => (c = 45 ∨ c = 43 → s2 = l2 ∧ l2 ≠ []) ∧ (¬ (c = 45 ∨ c = 43) → s2 = l)) ?_ ?_
  ·skip
   refine qC (qA rfl ?_)
   refine mvT rfl ?_
   refine qB (zY (c:=c) 0 rfl rfl rfl rfl (by rw [hcl]; rfl)) ?_
   refine pvB rfl ?_
   refine mvB rfl ?_
   rcases Bool.eq_false_or_eq_true ((c.toNat : Int) == 45) with hg | hg
   ·skip
    have hsg : c = 45 ∨ c = 43 := .inl (u8_eqI (k:=45) hg)
    refine qI rfl hg ?_
    refine qI rfl hg ?_
    refine qI rfl hg ?_
    refine qB (wN rfl hg (v:=.bool _) rfl) ?_
    refine wW rfl (rfl) ?_
    refine qC (qA rfl ?_)
    refine mvT rfl ?_
    refine qB (yA 1 l.length rfl rfl (.inr ⟨_, _, rfl, rfl⟩) (.inl ⟨rfl, rfl⟩) (by omega) (Nat.le_refl _)) ?_
    have hl2 : (l.take l.length).drop 1 = l2 := by rw [List.take_length, hcl]; rfl
    rw [hl2]
    refine asT rfl ?_
    refine qC (qA rfl ?_)
    refine mvT rfl ?_
    refine qB (zA rfl rfl) ?_
    refine pvB rfl ?_
    refine qP rfl (fun hz => ?_) (fun hz => ?_)
    ·skip
     have hz' : l2 = [] := by
      have := of_decide_eq_true hz
      exact List.eq_nil_of_length_eq_zero (by omega)
     have hnone : atoiF l = none := by rw [hcl, vV, if_pos hsg, if_pos hz']
     refine qC (qA rfl ?_)
     refine qB (wL (v:=_) rfl) ?_
     refine asI rfl ?_
     refine qB (wA (v:=_) rfl) ?_
     refine qQ ?_
     refine qJ (vs:=[_, _]) Tryz.results120 ⟨qG rfl rfl, qG rfl rfl, trivial⟩ fun V => ?_
     exact ⟨(qN V), 0, errV 2, rfl, .inr (.inr rfl), (fun _ m hm => by rw [hnone] at hm; cases hm), fun _ _ => (by intro h9; cases h9)⟩
    skip
    have hz' : ¬ l2 = [] := by
     rintro rfl
     have := of_decide_eq_false hz
     simp at this
    refine qM ?_
    refine ⟨l2, ⟨rfl, rfl, trivial⟩, rfl, rfl, (Ext.refl _), fun h3 E3 => ⟨fun _ => ⟨rfl, hz'⟩, fun h => absurd hsg h⟩, ?_⟩
    repeat (first | exact wQ _ _ | exact qV _ _ _ | refine qX (by decide) ?_ | refine qU rfl ?_ | refine qY rfl ?_)
   skip
   refine qF rfl hg ?_
   refine mvT rfl ?_
   refine qF rfl hg ?_
   refine qB (zY (c:=c) 0 rfl rfl rfl rfl (by rw [hcl]; rfl)) ?_
   refine qF rfl hg ?_
   refine pvB rfl ?_
   refine qB (wM rfl hg (v:=.bool _) rfl) ?_
   refine qP rfl (fun hg2 => ?_) (fun hg2 => ?_)
   ·skip
    have hsg : c = 45 ∨ c = 43 := .inr (u8_eqI (k:=43) hg2)
    refine qC (qA rfl ?_)
    refine mvT rfl ?_
    refine qB (yA 1 l.length rfl rfl (.inr ⟨_, _, rfl, rfl⟩) (.inl ⟨rfl, rfl⟩) (by omega) (Nat.le_refl _)) ?_
    have hl2 : (l.take l.length).drop 1 = l2 := by rw [List.take_length, hcl]; rfl
    rw [hl2]
    refine asT rfl ?_
    refine qC (qA rfl ?_)
    refine mvT rfl ?_
    refine qB (zA rfl rfl) ?_
    refine pvB rfl ?_
    refine qP rfl (fun hz => ?_) (fun hz => ?_)
    ·skip
     have hz' : l2 = [] := by
      have := of_decide_eq_true hz
      exact List.eq_nil_of_length_eq_zero (by omega)
     have hnone : atoiF l = none := by rw [hcl, vV, if_pos hsg, if_pos hz']
     refine qC (qA rfl ?_)
     refine qB (wL (v:=_) rfl) ?_
     refine asI rfl ?_
     refine qB (wA (v:=_) rfl) ?_
     refine qQ ?_
     refine qJ (vs:=[_, _]) Tryz.results120 ⟨qG rfl rfl, qG rfl rfl, trivial⟩ fun V => ?_
     exact ⟨(qN V), 0, errV 2, rfl, .inr (.inr rfl), (fun _ m hm => by rw [hnone] at hm; cases hm), fun _ _ => (by intro h9; cases h9)⟩
    skip
    have hz' : ¬ l2 = [] := by
     rintro rfl
     have := of_decide_eq_false hz
     simp at this
    refine qM ?_
    refine ⟨l2, ⟨rfl, rfl, trivial⟩, rfl, rfl, (Ext.refl _), fun h3 E3 => ⟨fun _ => ⟨rfl, hz'⟩, fun h => absurd hsg h⟩, ?_⟩
    repeat (first | exact wQ _ _ | exact qV _ _ _ | refine qX (by decide) ?_ | refine qU rfl ?_ | refine qY rfl ?_)
   skip
   refine qM ?_
   refine ⟨l, ⟨rfl, rfl, trivial⟩, rfl, rfl, (Ext.refl _), fun h3 E3 => ⟨fun h => absurd h (fun h => h.elim (fun e => by rw [e] at hg; exact absurd hg (by decide)) (fun e => by rw [e] at hg2; exact absurd hg2 (by decide))), fun _ => rfl⟩, ?_⟩
   repeat (first | exact wQ _ _ | exact qV _ _ _ | refine qX (by decide) ?_ | refine qU rfl ?_ | refine qY rfl ?_)
  rintro s2 T1 h_s2 E_s2 J_s2
  refine qR [] rfl ?_
  obtain ⟨JA, JB⟩ := J_s2
  have hs2 : s2.length ≤ l.length := by
   by_cases hsg : c = 45 ∨ c = 43
   ·rw [(JA hsg).1]; omega
   rw [JB hsg]; exact Nat.le_refl _
  have hat : atoiF l = (digsV s2 0).map fun m : Nat => if c = 45 then -(m : Int) else (m : Int) := by
   rw [hcl, vV]
   by_cases hsg : c = 45 ∨ c = 43
   ·rw [if_pos hsg, if_neg (JA hsg).2, (JA hsg).1]
   have h45 : ¬ c = 45 := fun e => hsg (.inl e)
   rw [if_neg hsg, JB hsg, hcl]
   simp only [h45, if_false]
  refine qC (qA rfl ?_)
  refine asI rfl ?_
  refine qC (qC (qA rfl ?_))
  refine mvT rfl ?_
  refine op_open ?_
  refine op_s2b s2 rfl rfl rfl rfl fun b cap junk f hb => ?_
  refine ⟨rfl, _, _, rfl, fun h2 E2 hb2 => ?_⟩
  refine qB (wP rfl rfl) ?_
  refine mvI rfl ?_
  refine qT ?_
  refine zF [2, 3, 6, 8, 49, 50, 51, 52, 53, 54, 55, 56, 57, 58, 59, 60, 61, 62, 63] 0 (α:=Nat × Nat) (fun ⟨k, n⟩ => [(49, .int .i64 k), (6, .int .i64 n)]) (fun ⟨k, n⟩ => _) (fun ⟨k, n⟩ h_k => k ≤ s2.length ∧ digsV s2 0 = digsV (s2.drop k) n ∧ n < 10 ^ k) (fun ⟨k, n⟩ => s2.length - k) ((0, 0)) ⟨rfl, rfl, trivial⟩ (rfl) (⟨Nat.zero_le _, rfl, by decide⟩) ?_
  rintro ⟨k, n⟩ T2 h_k E_k J_k
  refine qR [] rfl ?_
  obtain ⟨K1, K2, K3⟩ := J_k
  have hp10 : 10 ^ k ≤ 10 ^ 18 := Nat.pow_le_pow_right (by decide) (by omega)
  refine qC (qA rfl ?_)
  refine pvB rfl ?_
  refine qC ?_
  refine qP rfl (fun hk => ?_) (fun hk => ?_)
  ·skip
   have hkl : k < s2.length := ltI hk
   have hp17 : 10 ^ k ≤ 10 ^ 17 := Nat.pow_le_pow_right (by decide) (by omega)
   rw [List.drop_eq_getElem_cons hkl, digsV_cons] at K2
   have hdl := dv_lt s2[k]
   have hcell := (cells_front hb2).ext E_k k (.int .u8 s2[k].toNat) (by rw [byC_map, List.getElem?_map, List.getElem?_eq_getElem hkl]; rfl)
   refine qM ?_
   refine qC ?_
   refine qT ?_
   refine qC (qA rfl ?_)
   refine qB (zK (m:=1) rfl rfl rfl rfl (by omega) (by omega)) ?_
   refine wX (v:=.int .u8 s2[k].toNat) rfl rfl (by show cellA _ ⟨_, 0 + (k : Int).toNat * 1, none⟩ = _; rw [Int.toNat_natCast, Nat.mul_one]; exact hcell) ?_
   refine asI rfl ?_
   refine qC (qA rfl ?_)
   refine mvI rfl ?_
   refine qB (pv_w (r:=((dv s2[k] : Nat) : Int)) rfl (by have := u8_sub s2[k] 48; exact this)) ?_
   refine asI rfl ?_
   refine qC (qC (qA rfl ?_))
   refine mvI rfl ?_
   refine pvB rfl ?_
   refine qP rfl (fun hd => ?_) (fun hd => ?_)
   ·skip
    have hD : isD s2[k] = false := by
     have := of_decide_eq_true hd
     cases e : isD s2[k] with
     | false => rfl
     | true => have := dv_le e; omega
    have hnone : atoiF l = none := by rw [hat, K2, hD]; rfl
    refine qC (qA rfl ?_)
    refine qB (wL (v:=_) rfl) ?_
    refine asI rfl ?_
    refine qB (wA (v:=_) rfl) ?_
    refine qQ ?_
    refine qJ (vs:=[_, _]) Tryz.results120 ⟨qG rfl rfl, qG rfl rfl, trivial⟩ fun V => ?_
    exact ⟨(kX (kX (kX E_s2 E2) E_k) (qN V)), 0, errV 2, rfl, .inr (.inr rfl), (fun _ m hm => by rw [hnone] at hm; cases hm), fun _ _ => (by intro h9; cases h9)⟩
   skip
   have hD9 : dv s2[k] ≤ 9 := by have := of_decide_eq_false hd; omega
   have hD : isD s2[k] = true := Nat.ble_eq_true_of_le hD9
   rw [if_pos hD] at K2
   refine qM ?_
   refine qA rfl ?_
   refine mvI rfl ?_
   refine qB (qO rfl (by omega)) ?_
   refine mvI rfl ?_
   refine qB (vG (z':=((dv s2[k] : Nat) : Int)) rfl rfl rfl (i64_nat _ (by omega))) ?_
   refine qB (qO rfl (by omega)) ?_
   refine asI rfl ?_
   refine qA rfl ?_
   refine qB (qO rfl (by omega)) ?_
   refine mvI rfl ?_
   refine ⟨(k + 1, n * 10 + dv s2[k]), ⟨rfl, intE (by push_cast; rfl), trivial⟩, rfl, rfl, E_k, fun h3 E3 => ⟨hkl, K2, by rw [Nat.pow_succ]; omega⟩, by first | omega | (dsimp only; omega), ?_⟩
   repeat (first | exact qV _ _ _ | refine qX (by decide) ?_ | refine qU rfl ?_ | refine qY rfl ?_)
  skip
  have hke : k = s2.length := by have := geI hk; omega
  subst hke
  rw [List.drop_length] at K2
  have hsome : atoiF l = some (if c = 45 then -(n : Int) else (n : Int)) := by rw [hat, K2]; rfl
  refine wV ?_
  refine qC (qC (qA rfl ?_))
  refine mvT rfl ?_
  refine qB (zY (c:=c) 0 rfl rfl rfl rfl (by rw [hcl]; rfl)) ?_
  refine pvB rfl ?_
  refine qP rfl (fun h45 => ?_) (fun h45 => ?_)
  ·skip
   have hc45 : c = 45 := u8_eqI (k:=45) h45
   refine qA rfl ?_
   refine mvI rfl ?_
   refine qB (qO rfl (by omega)) ?_
   refine asI rfl ?_
   refine qC (qA rfl ?_)
   refine mvI rfl ?_
   refine asI rfl ?_
   refine qB (wA (v:=_) rfl) ?_
   refine qQ ?_
   refine qJ (vs:=[_, _]) Tryz.results120 ⟨qG rfl rfl, qG rfl rfl, trivial⟩ fun V => ?_
   exact ⟨(kX (kX (kX E_s2 E2) E_k) (qN V)), 0 - (n : Int), _, rfl, .inl rfl, (fun _ m hm => ⟨by rw [hsome, if_pos hc45] at hm; have := Option.some.inj hm; omega, rfl⟩), fun _ hm => by rw [hsome] at hm; cases hm⟩
  skip
  have hc45 : ¬ c = 45 := by
   rintro rfl
   simp at h45
  refine qM ?_
  refine qC (qA rfl ?_)
  refine mvI rfl ?_
  refine asI rfl ?_
  refine qB (wA (v:=_) rfl) ?_
  refine qQ ?_
  refine qJ (vs:=[_, _]) Tryz.results120 ⟨qG rfl rfl, qG rfl rfl, trivial⟩ fun V => ?_
  exact ⟨(kX (kX (kX E_s2 E2) E_k) (qN V)), (n : Int), _, rfl, .inl rfl, (fun _ m hm => ⟨by rw [hsome, if_neg hc45] at hm; exact Option.some.inj hm, rfl⟩), fun _ hm => by rw [hsome] at hm; cases hm⟩
 skip
 have h19' : ¬ l.length < 19 := by have := of_decide_eq_false h19; omega
 refine qM ?_
 refine qC (qA rfl ?_)
 refine mvT rfl ?_
 refine wI (caps:=[]) (vs:=[.string _, .int .i64 _, .int .i64 _]) rfl rfl rfl (ParseInt_ok l h hl) ?_
 rintro _ h1 E1 ⟨r, e, rfl, he, hz⟩
 refine qB (qK (v:=.tuple #[.int .i64 _, _]) rfl) ?_
 refine qB (wL (v:=.int .i64 _) rfl) ?_
 refine qB (wL (v:=_) rfl) ?_
 refine asI rfl ?_
 refine qB (wA (v:=_) rfl) ?_
 refine qC (qA rfl ?_)
 refine mvI rfl ?_
 refine qB (qK (v:=_) rfl) ?_
 refine asI rfl ?_
 refine qB (wA (v:=_) rfl) ?_
 refine qQ ?_
 refine qJ (vs:=[_, _]) Tryz.results120 ⟨qG rfl rfl, qG rfl rfl, trivial⟩ fun V => ?_
 exact ⟨(kX E1 (qN V)), r, e, rfl, he, fun h => absurd h h19', fun h => absurd h h19'⟩
def AtoV (l : List UInt8) (n : Int) (e : Value) : Prop := (e = .nilIface ∨ ∃ t p, e = .iface t p) ∧ (l.length < 19 → ∀ m, atoiF l = some m → n = m ∧ e = .nilIface) ∧ (l.length < 19 → atoiF l = none → e ≠ .nilIface)
theorem Atoi_ok (l : List UInt8) (h : AH) (ER : Errs h) (hl : l.length < 2 ^ 20) : FnT Tryz.prog 105 #[.string (bs l)] h (fun v _ => ∃ (n : Int) (e : Value), v = .tuple #[.int .i64 n, e] ∧ AtoV l n e) := by
 refine qW Tryz.func105 rfl Tryz.ntmps105 rfl ?_
 refine qC (qA rfl ?_)
 refine asI rfl ?_
 refine qB (wA (v:=_) rfl) ?_
 refine qC (qA rfl ?_)
 refine mvT rfl ?_
 refine wI (caps:=[]) (vs:=[.string _]) rfl rfl rfl (atoi1_ok l h hl) ?_
 rintro _ h1 E1 ⟨n, e, rfl, he, hA, hB⟩
 refine qB (qK (v:=.tuple #[.int .i64 _, _]) rfl) ?_
 refine qB (wL (v:=.int .i64 _) rfl) ?_
 refine qB (wL (v:=_) rfl) ?_
 refine asI rfl ?_
 refine qB (wA (v:=_) rfl) ?_
 rcases he with rfl | rfl | rfl
 ·refine qC (qC (qA rfl ?_))
  refine qB (qK (v:=_) rfl) ?_
  refine pvB rfl ?_
  refine wS rfl (rfl) ?_
  refine qM ?_
  refine qC (qA rfl ?_)
  refine mvI rfl ?_
  refine asI rfl ?_
  refine qB (wA (v:=_) rfl) ?_
  refine qQ ?_
  refine qJ (vs:=[_, _]) Tryz.results105 ⟨qG rfl rfl, qG rfl rfl, trivial⟩ fun V => ?_
  exact ⟨(kX E1 (qN V)), n, _, rfl, .inl rfl, hA, hB⟩
 ·skip
  refine qC (qC (qA rfl ?_))
  refine qB (qK (v:=_) rfl) ?_
  refine pvB rfl ?_
  refine wW rfl (rfl) ?_
  refine qC (qA rfl ?_)
  refine mvI rfl ?_
  refine mvT rfl ?_
  refine qB (qK (v:=_) rfl) ?_
  refine wI (caps:=[]) (vs:=[.string _, .string _, .int .i64 _, .int .i64 _, _]) rfl rfl rfl (toErr1_ok [65, 116, 111, 105] l h1 (ER.ext E1) hl) ?_
  rintro _ h2 E2 ⟨t, p, rfl⟩
  refine asI rfl ?_
  refine qB (wA (v:=_) rfl) ?_
  refine qQ ?_
  refine qJ (vs:=[_, _]) Tryz.results105 ⟨qG rfl rfl, qG rfl rfl, trivial⟩ fun V => ?_
  exact ⟨(kX (kX E1 E2) (qN V)), n, _, rfl, .inr ⟨_, _, rfl⟩, (fun hl m hm => absurd (hA hl m hm).2 (by intro h9; cases h9)), fun _ _ => (by intro h9; cases h9)⟩
 skip
 refine qC (qC (qA rfl ?_))
 refine qB (qK (v:=_) rfl) ?_
 refine pvB rfl ?_
 refine wW rfl (rfl) ?_
 refine qC (qA rfl ?_)
 refine mvI rfl ?_
 refine mvT rfl ?_
 refine qB (qK (v:=_) rfl) ?_
 refine wI (caps:=[]) (vs:=[.string _, .string _, .int .i64 _, .int .i64 _, _]) rfl rfl rfl (toErr2_ok [65, 116, 111, 105] l h1 (ER.ext E1) hl) ?_
 rintro _ h2 E2 ⟨t, p, rfl⟩
 refine asI rfl ?_
 refine qB (wA (v:=_) rfl) ?_
 refine qQ ?_
 refine qJ (vs:=[_, _]) Tryz.results105 ⟨qG rfl rfl, qG rfl rfl, trivial⟩ fun V => ?_
 exact ⟨(kX (kX E1 E2) (qN V)), n, _, rfl, .inr ⟨_, _, rfl⟩, (fun hl m hm => absurd (hA hl m hm).2 (by intro h9; cases h9)), fun _ _ => (by intro h9; cases h9)⟩
end
end Go.Proofs.YtboigjfgpppeaaaGreatDoor
