/- An own logic over the model, its walks and its plain laws, joined of parts W46 W47 Q4 Q5 P7 Tn To Tp Tq Tr W48 W49 W50 W51 W52 W53 Ts W54 W55 Tt W56 W57 W58 W42 W43 W59 W60 W61 Tu W62 W63 W64 W65 W44 W45 W66 Q6 Uz. Conditions: as each theorem states. -/
import Derived.Test.YtboigjfgpppeaaaGreatDoorLa7
import Derived.Test.YtboigjfgpppeaaaGreatDoorLa5
import Derived.Test.YtboigjfgpppeaaaGreatDoorRows
import Derived.Deep.Slices
import Derived.ProofKit
set_option linter.all false
namespace Go.Proofs.YtboigjfgpppeaaaGreatDoor
open Go Go.HL Go.Proofs Go.Wx
variable [Lvl]
set_option maxRecDepth 100000
theorem rWithin_ok (a lo hi : Int) (h : AH) : FnT Tryz.prog 89 #[.int .i64 a, .int .i64 lo, .int .i64 hi] h (fun v _ => v = .bool (inM a lo hi)) := by
 refine qW Tryz.func89 rfl Tryz.ntmps89 rfl ?_
 refine qC (qA rfl ?_)
 refine asB rfl ?_
 refine qC (qA rfl ?_)
 refine mvI rfl ?_
 refine mvI rfl ?_
 refine pvB rfl ?_
 refine mvB rfl ?_
 rcases Bool.eq_false_or_eq_true (decide (lo ≤ a)) with e | e
 ·skip
  refine qF rfl e ?_
  refine mvI rfl ?_
  refine qF rfl e ?_
  refine mvI rfl ?_
  refine qF rfl e ?_
  refine pvB rfl ?_
  refine qB (wN rfl e (v:=.bool _) rfl) ?_
  refine asB rfl ?_
  refine qQ ?_
  refine qJ (vs:=[_]) Tryz.results89 ⟨qG rfl rfl, trivial⟩ fun V => ?_
  exact ⟨(qN V), by rw [inM, e]; rfl⟩
 skip
 refine qI rfl e ?_
 refine qI rfl e ?_
 refine qI rfl e ?_
 refine qB (wM rfl e (v:=.bool _) rfl) ?_
 refine asB rfl ?_
 refine qQ ?_
 refine qJ (vs:=[_]) Tryz.results89 ⟨qG rfl rfl, trivial⟩ fun V => ?_
 exact ⟨(qN V), by rw [inM, e]; rfl⟩
theorem rRange_ok (x : Rg) (lo hi : Int) (h : AH) : FnT Tryz.prog 88 #[rgV x, .int .i64 lo, .int .i64 hi] h (fun v _ => v = .int .i64 (checkRangeM x lo hi)) := by
 cases e1 : inM x.mn lo hi with
 | false =>
  refine qW Tryz.func88 rfl Tryz.ntmps88 rfl ?_
  refine qC (qA rfl ?_)
  refine zC (v:=.agg #[.int .i64 _, .int .i64 _]) (cs:=[_, _]) rfl rfl fun b3 hb3 => ?_
  refine qH [_] rfl ?_
  refine asI rfl ?_
  refine qC (qC (qA rfl ?_))
  refine qB (qD rfl rfl rfl rfl 0 rfl) ?_
  refine qL 0 (v:=.int .i64 _) rfl rfl rfl rfl ?_
  refine mvI rfl ?_
  refine mvI rfl ?_
  have H1 := rWithin_ok x.mn lo hi h
  rw [e1] at H1
  refine wI (caps:=[]) (vs:=[.int .i64 _, .int .i64 _, .int .i64 _]) rfl rfl rfl (H1) ?_
  rintro _ h1 E1 rfl
  refine pvB rfl ?_
  refine mvB rfl ?_
  refine qI rfl rfl ?_
  refine qI rfl rfl ?_
  refine qI rfl rfl ?_
  refine qI rfl rfl ?_
  refine qI rfl rfl ?_
  refine qI rfl rfl ?_
  refine qB (wN rfl rfl (v:=.bool _) rfl) ?_
  refine wW rfl (rfl) ?_
  refine qC (qA rfl ?_)
  refine asI rfl ?_
  refine qQ ?_
  refine qJ (vs:=[_]) Tryz.results88 ⟨qG rfl rfl, trivial⟩ fun V => ?_
  exact ⟨(kX E1 (qN V)), intE (by rw [checkRangeM, e1]; rfl)⟩
 | true =>
  cases e2 : inM x.mx lo hi with
  | false =>
   refine qW Tryz.func88 rfl Tryz.ntmps88 rfl ?_
   refine qC (qA rfl ?_)
   refine zC (v:=.agg #[.int .i64 _, .int .i64 _]) (cs:=[_, _]) rfl rfl fun b3 hb3 => ?_
   refine qH [_] rfl ?_
   refine asI rfl ?_
   refine qC (qC (qA rfl ?_))
   refine qB (qD rfl rfl rfl rfl 0 rfl) ?_
   refine qL 0 (v:=.int .i64 _) rfl rfl rfl rfl ?_
   refine mvI rfl ?_
   refine mvI rfl ?_
   have H1 := rWithin_ok x.mn lo hi h
   rw [e1] at H1
   refine wI (caps:=[]) (vs:=[.int .i64 _, .int .i64 _, .int .i64 _]) rfl rfl rfl (H1) ?_
   rintro _ h1 E1 rfl
   refine pvB rfl ?_
   refine mvB rfl ?_
   refine qF rfl rfl ?_
   refine qB (qD rfl rfl rfl rfl 1 rfl) ?_
   refine qF rfl rfl ?_
   refine qL 0 (v:=.int .i64 _) rfl rfl rfl rfl ?_
   refine qF rfl rfl ?_
   refine mvI rfl ?_
   refine qF rfl rfl ?_
   refine mvI rfl ?_
   refine qF rfl rfl ?_
   have H2 := rWithin_ok x.mx lo hi h1
   rw [e2] at H2
   refine wI (caps:=[]) (vs:=[.int .i64 _, .int .i64 _, .int .i64 _]) rfl rfl rfl (H2) ?_
   rintro _ h2 E2 rfl
   refine qF rfl rfl ?_
   refine pvB rfl ?_
   refine qB (wM rfl rfl (v:=.bool _) rfl) ?_
   refine wW rfl (rfl) ?_
   refine qC (qA rfl ?_)
   refine asI rfl ?_
   refine qQ ?_
   refine qJ (vs:=[_]) Tryz.results88 ⟨qG rfl rfl, trivial⟩ fun V => ?_
   exact ⟨(kX (kX E1 E2) (qN V)), intE (by rw [checkRangeM, e1, e2]; rfl)⟩
  | true =>
   refine qW Tryz.func88 rfl Tryz.ntmps88 rfl ?_
   refine qC (qA rfl ?_)
   refine zC (v:=.agg #[.int .i64 _, .int .i64 _]) (cs:=[_, _]) rfl rfl fun b3 hb3 => ?_
   refine qH [_] rfl ?_
   refine asI rfl ?_
   refine qC (qC (qA rfl ?_))
   refine qB (qD rfl rfl rfl rfl 0 rfl) ?_
   refine qL 0 (v:=.int .i64 _) rfl rfl rfl rfl ?_
   refine mvI rfl ?_
   refine mvI rfl ?_
   have H1 := rWithin_ok x.mn lo hi h
   rw [e1] at H1
   refine wI (caps:=[]) (vs:=[.int .i64 _, .int .i64 _, .int .i64 _]) rfl rfl rfl (H1) ?_
   rintro _ h1 E1 rfl
   refine pvB rfl ?_
   refine mvB rfl ?_
   refine qF rfl rfl ?_
   refine qB (qD rfl rfl rfl rfl 1 rfl) ?_
   refine qF rfl rfl ?_
   refine qL 0 (v:=.int .i64 _) rfl rfl rfl rfl ?_
   refine qF rfl rfl ?_
   refine mvI rfl ?_
   refine qF rfl rfl ?_
   refine mvI rfl ?_
   refine qF rfl rfl ?_
   have H2 := rWithin_ok x.mx lo hi h1
   rw [e2] at H2
   refine wI (caps:=[]) (vs:=[.int .i64 _, .int .i64 _, .int .i64 _]) rfl rfl rfl (H2) ?_
   rintro _ h2 E2 rfl
   refine qF rfl rfl ?_
   refine pvB rfl ?_
   refine qB (wM rfl rfl (v:=.bool _) rfl) ?_
   refine wS rfl (rfl) ?_
   refine qM ?_
   refine qC (qC (qA rfl ?_))
   refine qB (qD rfl rfl rfl rfl 0 rfl) ?_
   refine qL 0 (v:=.int .i64 _) rfl rfl rfl rfl ?_
   refine qB (qD rfl rfl rfl rfl 1 rfl) ?_
   refine qL 0 (v:=.int .i64 _) rfl rfl rfl rfl ?_
   refine pvB rfl ?_
   refine qP rfl (fun hg => ?_) (fun hg => ?_)
   ·skip
    have hg' : x.mn > x.mx := of_decide_eq_true hg
    refine qC (qA rfl ?_)
    refine asI rfl ?_
    refine qQ ?_
    refine qJ (vs:=[_]) Tryz.results88 ⟨qG rfl rfl, trivial⟩ fun V => ?_
    exact ⟨(kX (kX E1 E2) (qN V)), intE (by rw [checkRangeM, e1, e2, if_pos hg']; rfl)⟩
   skip
   have hg' : ¬ x.mn > x.mx := of_decide_eq_false hg
   refine qM ?_
   refine qC (qA rfl ?_)
   refine asI rfl ?_
   refine qQ ?_
   refine qJ (vs:=[_]) Tryz.results88 ⟨qG rfl rfl, trivial⟩ fun V => ?_
   exact ⟨(kX (kX E1 E2) (qN V)), intE (by rw [checkRangeM, e1, e2, if_neg hg']; rfl)⟩
theorem rWeather_ok (x : Rg) (h : AH) : FnT Tryz.prog 87 #[rgV x] h (fun v _ => v = .int .i64 (checkWeatherM x)) := by
 refine qW Tryz.func87 rfl Tryz.ntmps87 rfl ?_
 refine qC (qA rfl ?_)
 refine zC (v:=.agg #[.int .i64 _, .int .i64 _]) (cs:=[_, _]) rfl rfl fun b1 hb1 => ?_
 refine qH [_] rfl ?_
 refine asI rfl ?_
 refine qC (qC (qA rfl ?_))
 refine qZ 0 (vs:=[.int .i64 _, .int .i64 _]) rfl rfl rfl rfl rfl ?_
 refine wI (caps:=[]) (vs:=[.agg #[.int .i64 _, .int .i64 _], .int .i64 _, .int .i64 _]) rfl rfl rfl (rRange_ok x _ _ h) ?_
 rintro _ h1 E1 rfl
 refine asI rfl ?_
 refine qC (qA rfl ?_)
 refine mvI rfl ?_
 refine pvB rfl ?_
 refine qP rfl (fun hc => ?_) (fun hc => ?_)
 ·skip
  refine qC (qA rfl ?_)
  refine mvI rfl ?_
  refine asI rfl ?_
  refine qQ ?_
  refine qJ (vs:=[_]) Tryz.results87 ⟨qG rfl rfl, trivial⟩ fun V => ?_
  exact ⟨(kX E1 (qN V)), intE (by simp_all [checkWeatherM])⟩
 skip
 have h0 := yV (x:=x) (lo:=-50) (hi:=100) (by simpa using hc)
 refine qM ?_
 refine qC (qC (qA rfl ?_))
 refine qB (qD rfl rfl rfl rfl 1 rfl) ?_
 refine qL 0 (v:=.int .i64 _) rfl rfl rfl rfl ?_
 refine qB (qD rfl rfl rfl rfl 0 rfl) ?_
 refine qL 0 (v:=.int .i64 _) rfl rfl rfl rfl ?_
 refine qB (qO rfl (by omega)) ?_
 refine pvB rfl ?_
 refine qP rfl (fun hc1 => ?_) (fun hc1 => ?_)
 ·refine qC (qA rfl ?_)
  refine asI rfl ?_
  refine qQ ?_
  refine qJ (vs:=[_]) Tryz.results87 ⟨qG rfl rfl, trivial⟩ fun V => ?_
  exact ⟨(kX E1 (qN V)), intE (by simp_all [checkWeatherM])⟩
 refine qM ?_
 refine qC (qA rfl ?_)
 refine asI rfl ?_
 refine qQ ?_
 refine qJ (vs:=[_]) Tryz.results87 ⟨qG rfl rfl, trivial⟩ fun V => ?_
 exact ⟨(kX E1 (qN V)), intE (by simp_all [checkWeatherM])⟩
theorem kind_in (k : Int) : inM k 1 2 = (decide (k = 1) || decide (k = 2)) := by
 unfold inM
 rw [Bool.eq_iff_iff]
 simp
 omega
set_option maxHeartbeats 1000000 in
theorem rJoint_ok (j : Joint) (h : AH) : FnT Tryz.prog 65 #[.agg (jointC j).toArray] h (fun v _ => v = .int .i64 (checkJointM j)) := by
 refine qW Tryz.func65 rfl Tryz.ntmps65 rfl ?_
 refine qC (qA rfl ?_)
 refine zC (v:=.agg #[.int .i64 _, .int .i64 _, .int .i64 _, .int .i64 _, .int .i64 _, .int .i64 _, .int .i64 _, .int .i64 _, .int .i64 _]) (cs:=[_, _, _, _, _, _, _, _, _]) rfl rfl fun b1 hb1 => ?_
 refine qH [_] rfl ?_
 refine asI rfl ?_
 refine zU [2, 6, 7, 8, 9, 10, 11, 12, 13] 1 (α:=Unit) (fun u => []) (fun u L => L) (fun u h_u => inM j.kind 1 2 = true) ?_ ?_
 ·skip
  refine qC (qA rfl ?_)
  refine qB (qD rfl rfl rfl rfl 0 rfl) ?_
  refine qL 0 (v:=.int .i64 _) rfl rfl rfl rfl ?_
  refine pvB rfl ?_
  refine mvB rfl ?_
  rcases Bool.eq_false_or_eq_true (decide (j.kind = 1)) with e1 | e1
  ·skip
   have e1' : (!decide (j.kind = 1)) = false := by rw [e1]; rfl
   refine qI rfl e1' ?_
   refine qI rfl e1' ?_
   refine qI rfl e1' ?_
   refine qB (wM rfl e1' (v:=.bool _) rfl) ?_
   refine wS rfl (rfl) ?_
   refine qM ?_
   refine ⟨(), trivial, rfl, rfl, (Ext.refl _), fun h3 E3 => by rw [kind_in, e1]; rfl, ?_⟩
   repeat (first | exact wQ _ _ | exact qV _ _ _ | refine qX (by decide) ?_ | refine qU rfl ?_ | refine qY rfl ?_)
  skip
  have e1' : (!decide (j.kind = 1)) = true := by rw [e1]; rfl
  refine qF rfl e1' ?_
  refine qB (qD rfl rfl rfl rfl 0 rfl) ?_
  refine qF rfl e1' ?_
  refine qL 0 (v:=.int .i64 _) rfl rfl rfl rfl ?_
  refine qF rfl e1' ?_
  refine pvB rfl ?_
  refine qB (wN rfl e1' (v:=.bool _) rfl) ?_
  refine qP rfl (fun e2 => ?_) (fun e2 => ?_)
  ·skip
   have hk : inM j.kind 1 2 = false := by rw [kind_in, e1]; simpa using e2
   refine qC (qA rfl ?_)
   refine asI rfl ?_
   refine qQ ?_
   refine qJ (vs:=[_]) Tryz.results65 ⟨qG rfl rfl, trivial⟩ fun V => ?_
   exact ⟨(qN V), intE (by rw [checkJointM, hk]; rfl)⟩
  skip
  have hk : inM j.kind 1 2 = true := by rw [kind_in, e1]; simpa using e2
  refine qM ?_
  refine ⟨(), trivial, rfl, rfl, (Ext.refl _), fun h3 E3 => hk, ?_⟩
  repeat (first | exact wQ _ _ | exact qV _ _ _ | refine qX (by decide) ?_ | refine qU rfl ?_ | refine qY rfl ?_)
 rintro u T1 h_u E_u J_u
 refine qR [_] rfl ?_
 refine qC (qC (qA rfl ?_))
 refine qB (qD rfl rfl rfl rfl 1 rfl) ?_
 refine qZ 0 (vs:=[.int .i64 _, .int .i64 _]) rfl rfl rfl rfl rfl ?_
 refine wI (caps:=[]) (vs:=[.agg #[.int .i64 _, .int .i64 _]]) rfl rfl rfl (rWeather_ok ⟨_, _⟩ h_u) ?_
 rintro _ h1 E1 rfl
 refine asI rfl ?_
 refine qC (qA rfl ?_)
 refine mvI rfl ?_
 refine pvB rfl ?_
 refine qP rfl (fun c1 => ?_) (fun c1 => ?_)
 ·skip
  refine qC (qA rfl ?_)
  refine mvI rfl ?_
  refine asI rfl ?_
  refine qQ ?_
  refine qJ (vs:=[_]) Tryz.results65 ⟨qG rfl rfl, trivial⟩ fun V => ?_
  exact ⟨(kX (kX E_u E1) (qN V)), intE (by rw [checkJointM, J_u, if_neg (by decide), if_pos (by simpa using c1)])⟩
 skip
 refine qM ?_
 refine qC (qC (qA rfl ?_))
 refine qB (qD rfl rfl rfl rfl 3 rfl) ?_
 refine qZ 0 (vs:=[.int .i64 _, .int .i64 _]) rfl rfl rfl rfl rfl ?_
 refine wI (caps:=[]) (vs:=[.agg #[.int .i64 _, .int .i64 _]]) rfl rfl rfl (rWeather_ok ⟨_, _⟩ h1) ?_
 rintro _ h2 E2 rfl
 refine asI rfl ?_
 refine qC (qA rfl ?_)
 refine mvI rfl ?_
 refine pvB rfl ?_
 refine qP rfl (fun c2 => ?_) (fun c2 => ?_)
 ·skip
  refine qC (qA rfl ?_)
  refine mvI rfl ?_
  refine asI rfl ?_
  refine qQ ?_
  refine qJ (vs:=[_]) Tryz.results65 ⟨qG rfl rfl, trivial⟩ fun V => ?_
  exact ⟨(kX (kX (kX E_u E1) E2) (qN V)), intE (by rw [checkJointM, J_u, if_neg (by decide), if_neg (by simpa using c1), if_pos (by simpa using c2)])⟩
 skip
 refine qM ?_
 refine qC (qC (qA rfl ?_))
 refine qB (qD rfl rfl rfl rfl 5 rfl) ?_
 refine qZ 0 (vs:=[.int .i64 _, .int .i64 _]) rfl rfl rfl rfl rfl ?_
 refine wI (caps:=[]) (vs:=[.agg #[.int .i64 _, .int .i64 _], .int .i64 _, .int .i64 _]) rfl rfl rfl (rRange_ok ⟨_, _⟩ _ _ h2) ?_
 rintro _ h3 E3 rfl
 refine asI rfl ?_
 refine qC (qA rfl ?_)
 refine mvI rfl ?_
 refine pvB rfl ?_
 refine qP rfl (fun c3 => ?_) (fun c3 => ?_)
 ·skip
  refine qC (qA rfl ?_)
  refine mvI rfl ?_
  refine asI rfl ?_
  refine qQ ?_
  refine qJ (vs:=[_]) Tryz.results65 ⟨qG rfl rfl, trivial⟩ fun V => ?_
  exact ⟨(kX (kX (kX (kX E_u E1) E2) E3) (qN V)), intE (by rw [checkJointM, J_u, if_neg (by decide), if_neg (by simpa using c1), if_neg (by simpa using c2), if_pos (by simpa using c3)])⟩
 skip
 refine qM ?_
 refine qC (qA rfl ?_)
 refine qB (qD rfl rfl rfl rfl 7 rfl) ?_
 refine qZ 0 (vs:=[.int .i64 _, .int .i64 _]) rfl rfl rfl rfl rfl ?_
 refine wI (caps:=[]) (vs:=[.agg #[.int .i64 _, .int .i64 _], .int .i64 _, .int .i64 _]) rfl rfl rfl (rRange_ok ⟨_, _⟩ _ _ h3) ?_
 rintro _ h4 E4 rfl
 refine asI rfl ?_
 refine qQ ?_
 refine qJ (vs:=[_]) Tryz.results65 ⟨qG rfl rfl, trivial⟩ fun V => ?_
 exact ⟨(kX (kX (kX (kX (kX E_u E1) E2) E3) E4) (qN V)), intE (by rw [checkJointM, J_u, if_neg (by decide), if_neg (by simpa using c1), if_neg (by simpa using c2), if_neg (by simpa using c3)])⟩
theorem rSeen_ok (s : Season) (r : Seen) (A0 A1 A2 A3 : Option Addr) (c0 c1 c2 c3 : Nat) (hj : s.joints.length < 2 ^ 40) (hh : s.heats.length < 2 ^ 40) (h : AH) : FnT Tryz.prog 66 #[seasonV A0 A1 A2 A3 c0 c1 c2 c3 s, .agg (seenC r).toArray] h (fun v _ => v = .int .i64 (checkSeenM s r)) := by
 refine qW Tryz.func66 rfl Tryz.ntmps66 rfl ?_
 refine qC (qA rfl ?_)
 refine zC (v:=.agg #[.slice _ _ _, .slice _ _ _, .slice _ _ _, .slice _ _ _]) (cs:=[_, _, _, _]) rfl rfl fun b2 hb2 => ?_
 refine qH [_] rfl ?_
 refine zC (v:=.agg #[.int .i64 _, .int .i64 _, .bool _]) (cs:=[_, _, _]) rfl rfl fun b3 hb3 => ?_
 refine qH [_, _] rfl ?_
 refine asI rfl ?_
 refine qC (qC (qA rfl ?_))
 refine qB (qD rfl rfl rfl rfl 0 rfl) ?_
 refine qL 1 (v:=.int .i64 _) rfl rfl rfl rfl ?_
 refine qB (qD rfl rfl rfl rfl 2 rfl) ?_
 refine qL 0 (v:=.slice _ _ _) rfl rfl rfl rfl ?_
 refine qB (wP rfl rfl) ?_
 refine qB (qO rfl (by omega)) ?_
 refine wI (caps:=[]) (vs:=[.int .i64 _, .int .i64 _, .int .i64 _]) rfl rfl rfl (rWithin_ok _ _ _ h) ?_
 rintro _ h1 E1 rfl
 refine pvB rfl ?_
 refine qP rfl (fun hc2 => ?_) (fun hc2 => ?_)
 ·refine qC (qA rfl ?_)
  refine asI rfl ?_
  refine qQ ?_
  refine qJ (vs:=[_]) Tryz.results66 ⟨qG rfl rfl, trivial⟩ fun V => ?_
  exact ⟨(kX E1 (qN V)), intE (by simp_all [checkSeenM])⟩
 refine qM ?_
 refine qC (qC (qA rfl ?_))
 refine qB (qD rfl rfl rfl rfl 1 rfl) ?_
 refine qL 1 (v:=.int .i64 _) rfl rfl rfl rfl ?_
 refine qB (qD rfl rfl rfl rfl 0 rfl) ?_
 refine qL 0 (v:=.slice _ _ _) rfl rfl rfl rfl ?_
 refine qB (wP rfl rfl) ?_
 refine qB (qO rfl (by omega)) ?_
 refine wI (caps:=[]) (vs:=[.int .i64 _, .int .i64 _, .int .i64 _]) rfl rfl rfl (rWithin_ok _ _ _ h1) ?_
 rintro _ h3 E3 rfl
 refine pvB rfl ?_
 refine qP rfl (fun hc4 => ?_) (fun hc4 => ?_)
 ·refine qC (qA rfl ?_)
  refine asI rfl ?_
  refine qQ ?_
  refine qJ (vs:=[_]) Tryz.results66 ⟨qG rfl rfl, trivial⟩ fun V => ?_
  exact ⟨(kX (kX E1 E3) (qN V)), intE (by simp_all [checkSeenM])⟩
 refine qM ?_
 refine qC (qA rfl ?_)
 refine asI rfl ?_
 refine qQ ?_
 refine qJ (vs:=[_]) Tryz.results66 ⟨qG rfl rfl, trivial⟩ fun V => ?_
 exact ⟨(kX (kX E1 E3) (qN V)), intE (by simp_all [checkSeenM])⟩
end Go.Proofs.YtboigjfgpppeaaaGreatDoor
namespace Go.Proofs.YtboigjfgpppeaaaGreatDoor
open Go Go.HL Go.Proofs Go.Wx
variable [Lvl]
set_option maxRecDepth 100000
def weeksE (s : Season) : Int :=
 if s.heats.length = 0 then 7 else if s.heats.length > 6 then 6 else if s.damps.length < s.heats.length then 7 else if s.damps.length > s.heats.length then 6
 else firstErr checkWeatherM (s.heats ++ s.damps)
theorem check_weeks (s : Season) : checkM s = if weeksE s ≠ 0 then weeksE s else if s.joints.length > 3 then 6 else if firstErr checkJointM s.joints ≠ 0 then firstErr checkJointM s.joints else if s.reports.length > 5 then 6 else firstErr (checkSeenM s) s.reports := by
 unfold checkM weeksE
 split
 ·rw [if_pos (by decide)]
 split
 ·rw [if_pos (by decide)]
 split
 ·rw [if_pos (by decide)]
 split
 ·rw [if_pos (by decide)]
 rfl
set_option maxHeartbeats 1000000 in
theorem rWeeks_ok (s : Season) (A0 A1 A2 A3 : Option Addr) (c0 c1 c2 c3 : Nat) (h : AH) (R : SeasonR h A0 A1 A2 A3 s) (h0 : s.heats.length < 2 ^ 40) (h1 : s.damps.length < 2 ^ 40) :
  FnT Tryz.prog 64 #[seasonV A0 A1 A2 A3 c0 c1 c2 c3 s] h (fun v _ => v = .int .i64 (weeksE s)) := by
 refine qW Tryz.func64 rfl Tryz.ntmps64 rfl ?_
 refine qC (qA rfl ?_)
 refine zC (v:=.agg #[.slice _ _ _, .slice _ _ _, .slice _ _ _, .slice _ _ _]) (cs:=[_, _, _, _]) rfl rfl fun b1 hb1 => ?_
 refine qH [_] rfl ?_
 refine asI rfl ?_
 refine qC (qC (qA rfl ?_))
 refine qB (qD rfl rfl rfl rfl 0 rfl) ?_
 refine qL 0 (v:=.slice _ _ _) rfl rfl rfl rfl ?_
 refine qB (wP rfl rfl) ?_
 refine pvB rfl ?_
 refine qP rfl (fun q1 => ?_) (fun q1 => ?_)
 ·skip
  have q1' : s.heats.length = 0 := by have := of_decide_eq_true q1; omega
  refine qC (qA rfl ?_)
  refine asI rfl ?_
  refine qQ ?_
  refine qJ (vs:=[_]) Tryz.results64 ⟨qG rfl rfl, trivial⟩ fun V => ?_
  exact ⟨(qN V), intE (by rw [weeksE, if_pos q1'])⟩
 skip
 have q1' : ¬ s.heats.length = 0 := by have := of_decide_eq_false q1; omega
 refine qM ?_
 refine qC (qC (qA rfl ?_))
 refine qB (qD rfl rfl rfl rfl 0 rfl) ?_
 refine qL 0 (v:=.slice _ _ _) rfl rfl rfl rfl ?_
 refine qB (wP rfl rfl) ?_
 refine pvB rfl ?_
 refine qP rfl (fun q2 => ?_) (fun q2 => ?_)
 ·skip
  have q2' : s.heats.length > 6 := by have := of_decide_eq_true q2; omega
  refine qC (qA rfl ?_)
  refine asI rfl ?_
  refine qQ ?_
  refine qJ (vs:=[_]) Tryz.results64 ⟨qG rfl rfl, trivial⟩ fun V => ?_
  exact ⟨(qN V), intE (by rw [weeksE, if_neg q1', if_pos q2'])⟩
 skip
 have q2' : ¬ s.heats.length > 6 := by have := of_decide_eq_false q2; omega
 refine qM ?_
 refine qC (qC (qA rfl ?_))
 refine qB (qD rfl rfl rfl rfl 1 rfl) ?_
 refine qL 0 (v:=.slice _ _ _) rfl rfl rfl rfl ?_
 refine qB (wP rfl rfl) ?_
 refine qB (qD rfl rfl rfl rfl 0 rfl) ?_
 refine qL 0 (v:=.slice _ _ _) rfl rfl rfl rfl ?_
 refine qB (wP rfl rfl) ?_
 refine pvB rfl ?_
 refine qP rfl (fun q3 => ?_) (fun q3 => ?_)
 ·skip
  have q3' : s.damps.length < s.heats.length := by have := of_decide_eq_true q3; omega
  refine qC (qA rfl ?_)
  refine asI rfl ?_
  refine qQ ?_
  refine qJ (vs:=[_]) Tryz.results64 ⟨qG rfl rfl, trivial⟩ fun V => ?_
  exact ⟨(qN V), intE (by rw [weeksE, if_neg q1', if_neg q2', if_pos q3'])⟩
 skip
 have q3' : ¬ s.damps.length < s.heats.length := by have := of_decide_eq_false q3; omega
 refine qM ?_
 refine qC (qC (qA rfl ?_))
 refine qB (qD rfl rfl rfl rfl 1 rfl) ?_
 refine qL 0 (v:=.slice _ _ _) rfl rfl rfl rfl ?_
 refine qB (wP rfl rfl) ?_
 refine qB (qD rfl rfl rfl rfl 0 rfl) ?_
 refine qL 0 (v:=.slice _ _ _) rfl rfl rfl rfl ?_
 refine qB (wP rfl rfl) ?_
 refine pvB rfl ?_
 refine qP rfl (fun q4 => ?_) (fun q4 => ?_)
 ·skip
  have q4' : s.damps.length > s.heats.length := by have := of_decide_eq_true q4; omega
  refine qC (qA rfl ?_)
  refine asI rfl ?_
  refine qQ ?_
  refine qJ (vs:=[_]) Tryz.results64 ⟨qG rfl rfl, trivial⟩ fun V => ?_
  exact ⟨(qN V), intE (by rw [weeksE, if_neg q1', if_neg q2', if_neg q3', if_pos q4'])⟩
 skip
 have q4' : ¬ s.damps.length > s.heats.length := by have := of_decide_eq_false q4; omega
 have eW : weeksE s = firstErr checkWeatherM (s.heats ++ s.damps) := by rw [weeksE, if_neg q1', if_neg q2', if_neg q3', if_neg q4']
 refine qM ?_
 refine qC ?_
 refine zL [false, true] rfl rfl rfl ?_
 refine qE (i:=1) rfl (by decide +kernel) (qD rfl rfl rfl rfl 0 rfl) ?_
 refine wD (i:=2) rfl (by decide +kernel) ?_
 refine qL 0 (v:=.slice _ _ _) rfl rfl rfl rfl ?_
 refine qE (i:=4) rfl (by decide +kernel) (qD rfl rfl rfl rfl 1 rfl) ?_
 refine wD (i:=5) rfl (by decide +kernel) ?_
 refine qL 0 (v:=.slice _ _ _) rfl rfl rfl rfl ?_
 refine wZ (i:=0) rfl (by decide +kernel) ?_
 refine wG (zc:=[_, _]) (vs:=[]) (cs:=[]) rfl rfl rfl rfl rfl rfl rfl fun b28 hb28 => ?_
 refine ⟨vL hb28 _, ?_⟩
 refine wJ [_, _] rfl ?_
 refine wZ (i:=3) rfl (by decide +kernel) ?_
 refine zE 1 accR_new rfl rfl rfl (fun V => R.heats.2.ext (kX (Ext.refl _) (qN V))) (wO R.heats.1) (vC rgP s.heats) rfl rfl rfl rfl rfl rfl rfl (by omega) rfl (by rw [wO R.heats.1, List.length_nil]; omega) fun a0 h1a E1a ha0 => ?_
 refine ⟨zJ E1a _, ?_⟩
 refine wJ [_, _] rfl ?_
 refine wU (i:=6) rfl (by decide +kernel) (by decide +kernel) ?_
 refine zE 1 ha0 rfl rfl rfl (fun V => R.damps.2.ext (kX E1a (qN V))) (wO R.damps.1) (vC rgP s.damps) rfl rfl rfl rfl rfl rfl rfl (by omega) rfl (by rw [List.nil_append, wO R.heats.1, wO R.damps.1]; omega) fun a1 h2a E2a ha1 => ?_
 refine wJ [_, _] rfl ?_
 refine qE (i:=7) rfl (by decide +kernel) (wA (v:=.slice _ _ _) rfl) ?_
 refine zB rfl ?_
 obtain ⟨l, hl⟩ : ∃ l, s.heats ++ s.damps = l := ⟨_, rfl⟩
 have ll : l.length ≤ 12 := by rw [← hl, List.length_append]; omega
 rw [List.nil_append, ← List.flatMap_append, hl] at ha1
 obtain ⟨p1, B1, n1, d1⟩ := a1
 obtain rfl : n1 = l.length := by have := AccR.len ha1; rw [wO (m:=2) (fun _ _ => rfl)] at this; dsimp only at this; omega
 dsimp only
 refine yD 1 rfl ?_
 intro g1 G1 P1
 refine qR [_, _] rfl ?_
 have RB : Row g1 2 rgC B1 l := ⟨fun _ _ => rfl, AccR.rd ha1 P1⟩
 rw [hl] at eW
 refine qC (qC (qA rfl ?_))
 refine asI rfl ?_
 refine qT ?_
 refine zF [2, 4, 5, 35, 36, 37, 38, 39, 40, 41, 42, 43, 44, 45, 46, 47, 48] 2 (α:=Nat) (fun k => [(4, .int .i64 k)]) (fun k => _) (fun k h_k => k ≤ l.length ∧ firstErr checkWeatherM (l.take k) = 0) (fun k => l.length - k) (0) ⟨rfl, trivial⟩ (rfl) (⟨Nat.zero_le _, rfl⟩) ?_
 rintro k T3 h_k E_k J_k
 refine qR [_, _] rfl ?_
 obtain ⟨K1, K2⟩ := J_k
 refine qC (qC (qA rfl ?_))
 refine mvI rfl ?_
 refine mvS rfl ?_
 refine qB (wP rfl rfl) ?_
 refine pvB rfl ?_
 refine qP rfl (fun hk => ?_) (fun hk => ?_)
 ·skip
  have hkl : k < l.length := ltI hk
  obtain ⟨g, off, hB, hc⟩ := (RB.ext E_k).at (by omega) hkl
  refine qM ?_
  refine qC ?_
  refine qT ?_
  refine qC (qA rfl ?_)
  refine mvS rfl ?_
  refine mvI rfl ?_
  refine qB (wK rfl hB rfl rfl rfl (by omega) (by omega)) ?_
  refine zH rfl rfl rfl rfl (hc) ?_
  refine wI (caps:=[]) (vs:=[.agg #[.int .i64 _, .int .i64 _]]) rfl rfl rfl (rWeather_ok l[k] h_k) ?_
  rintro _ g3 G3 rfl
  refine asI rfl ?_
  refine qC (qA rfl ?_)
  refine mvI rfl ?_
  refine pvB rfl ?_
  refine qP rfl (fun hx => ?_) (fun hx => ?_)
  ·skip
   have hx' : checkWeatherM l[k] ≠ 0 := by simpa using hx
   refine qC (qA rfl ?_)
   refine mvI rfl ?_
   refine asI rfl ?_
   refine qQ ?_
   refine qJ (vs:=[_]) Tryz.results64 ⟨qG rfl rfl, trivial⟩ fun V => ?_
   exact ⟨(kX (kX (kX (kX (kX E1a E2a) G1) E_k) G3) (qN V)), intE (by rw [eW, vD hkl K2 hx'])⟩
  skip
  have hx' : checkWeatherM l[k] = 0 := by simpa using hx
  refine qM ?_
  refine qA rfl ?_
  refine mvI rfl ?_
  refine qB (qO rfl (by omega)) ?_
  refine asI rfl ?_
  refine ⟨k + 1, ⟨rfl, trivial⟩, rfl, rfl, (kX E_k G3), fun h3 E3 => ⟨hkl, vT hkl K2 hx'⟩, by first | omega | (dsimp only; omega), ?_⟩
  repeat (first | exact qV _ _ _ | refine qX (by decide) ?_ | refine qU rfl ?_ | refine qY rfl ?_)
 skip
 have hke : k = l.length := by have := geI hk; omega
 subst hke
 rw [List.take_length] at K2
 refine wV ?_
 refine qC (qA rfl ?_)
 refine asI rfl ?_
 refine qQ ?_
 refine qJ (vs:=[_]) Tryz.results64 ⟨qG rfl rfl, trivial⟩ fun V => ?_
 exact ⟨(kX (kX (kX (kX E1a E2a) G1) E_k) (qN V)), intE (by rw [eW, K2])⟩
set_option maxHeartbeats 1000000 in
theorem rCheck_ok (s : Season) (Sm : Small s) (A0 A1 A2 A3 : Option Addr) (c0 c1 c2 c3 : Nat) (h : AH) (R : SeasonR h A0 A1 A2 A3 s) :
  FnT Tryz.prog 31 #[seasonV A0 A1 A2 A3 c0 c1 c2 c3 s] h (fun v _ => v = .int .i64 (checkM s)) := by
 have Sm0 := Sm.h0
 have Sm2 := Sm.h2
 have Sm3 := Sm.h3
 have eC := check_weeks s
 refine qW Tryz.func31 rfl Tryz.ntmps31 rfl ?_
 refine qC (qA rfl ?_)
 refine zC (v:=.agg #[.slice _ _ _, .slice _ _ _, .slice _ _ _, .slice _ _ _]) (cs:=[_, _, _, _]) rfl rfl fun b1 hb1 => ?_
 refine qH [_] rfl ?_
 refine asI rfl ?_
 refine qC (qC (qA rfl ?_))
 refine qZ 0 (vs:=[.slice _ _ _, .slice _ _ _, .slice _ _ _, .slice _ _ _]) rfl rfl rfl rfl rfl ?_
 refine wI (caps:=[]) (vs:=[.agg #[.slice _ _ _, .slice _ _ _, .slice _ _ _, .slice _ _ _]]) rfl rfl rfl (rWeeks_ok s A0 A1 A2 A3 c0 c1 c2 c3 h (R.ext (Ext.refl _)) Sm.h0 Sm.h1) ?_
 rintro _ g1 G1 rfl
 refine asI rfl ?_
 refine qC (qA rfl ?_)
 refine mvI rfl ?_
 refine pvB rfl ?_
 refine qP rfl (fun c1' => ?_) (fun c1' => ?_)
 ·skip
  have hw : weeksE s ≠ 0 := by simpa using c1'
  refine qC (qA rfl ?_)
  refine mvI rfl ?_
  refine asI rfl ?_
  refine qQ ?_
  refine qJ (vs:=[_]) Tryz.results31 ⟨qG rfl rfl, trivial⟩ fun V => ?_
  exact ⟨(kX G1 (qN V)), intE (by rw [eC, if_pos hw])⟩
 skip
 have hw : weeksE s = 0 := by simpa using c1'
 rw [if_neg (by simp [hw])] at eC
 refine qM ?_
 refine qC (qC (qA rfl ?_))
 refine qB (qD rfl rfl rfl rfl 2 rfl) ?_
 refine qL 0 (v:=.slice _ _ _) rfl rfl rfl rfl ?_
 refine qB (wP rfl rfl) ?_
 refine pvB rfl ?_
 refine qP rfl (fun q1 => ?_) (fun q1 => ?_)
 ·skip
  have q1' : s.joints.length > 3 := by have := of_decide_eq_true q1; omega
  refine qC (qA rfl ?_)
  refine asI rfl ?_
  refine qQ ?_
  refine qJ (vs:=[_]) Tryz.results31 ⟨qG rfl rfl, trivial⟩ fun V => ?_
  exact ⟨(kX G1 (qN V)), intE (by rw [eC, if_pos q1'])⟩
 skip
 have q1' : ¬ s.joints.length > 3 := by have := of_decide_eq_false q1; omega
 rw [if_neg q1'] at eC
 refine qM ?_
 refine qC (qC (qA rfl ?_))
 refine asI rfl ?_
 refine qT ?_
 refine zF [2, 4, 5, 17, 18, 19, 20, 21, 22, 23, 24, 25, 26, 27, 28, 29, 30, 31, 32] 1 (α:=Nat) (fun k => [(4, .int .i64 k)]) (fun k => _) (fun k h_k => k ≤ s.joints.length ∧ firstErr checkJointM (s.joints.take k) = 0) (fun k => s.joints.length - k) (0) ⟨rfl, trivial⟩ (rfl) (⟨Nat.zero_le _, rfl⟩) ?_
 rintro k T1 h_k E_k J_k
 refine qR [_] rfl ?_
 obtain ⟨K1, K2⟩ := J_k
 refine qC (qC (qA rfl ?_))
 refine mvI rfl ?_
 refine qB (qD rfl rfl rfl rfl 2 rfl) ?_
 refine qL 0 (v:=.slice _ _ _) rfl rfl rfl rfl ?_
 refine qB (wP rfl rfl) ?_
 refine pvB rfl ?_
 refine qP rfl (fun hk => ?_) (fun hk => ?_)
 ·skip
  have hkl : k < s.joints.length := ltI hk
  obtain ⟨g, off, hB, hc⟩ := (R.joints.ext (kX G1 E_k)).at (by omega) hkl
  refine qM ?_
  refine qC ?_
  refine qT ?_
  refine qC (qA rfl ?_)
  refine qB (qD rfl rfl rfl rfl 2 rfl) ?_
  refine qL 0 (v:=.slice _ _ _) rfl rfl rfl rfl ?_
  refine mvI rfl ?_
  refine qB (wK rfl hB rfl rfl rfl (by omega) (by omega)) ?_
  refine zH rfl rfl rfl rfl (hc) ?_
  refine wI (caps:=[]) (vs:=[.agg #[.int .i64 _, .int .i64 _, .int .i64 _, .int .i64 _, .int .i64 _, .int .i64 _, .int .i64 _, .int .i64 _, .int .i64 _]]) rfl rfl rfl (rJoint_ok s.joints[k] h_k) ?_
  rintro _ g3 G3 rfl
  refine asI rfl ?_
  refine qC (qA rfl ?_)
  refine mvI rfl ?_
  refine pvB rfl ?_
  refine qP rfl (fun hx => ?_) (fun hx => ?_)
  ·skip
   have hx' : checkJointM s.joints[k] ≠ 0 := by simpa using hx
   have e2 := vD hkl K2 hx'
   refine qC (qA rfl ?_)
   refine mvI rfl ?_
   refine asI rfl ?_
   refine qQ ?_
   refine qJ (vs:=[_]) Tryz.results31 ⟨qG rfl rfl, trivial⟩ fun V => ?_
   exact ⟨(kX (kX (kX G1 E_k) G3) (qN V)), intE (by rw [eC, if_pos (by rw [e2]; exact hx'), e2])⟩
  skip
  have hx' : checkJointM s.joints[k] = 0 := by simpa using hx
  refine qM ?_
  refine qA rfl ?_
  refine mvI rfl ?_
  refine qB (qO rfl (by omega)) ?_
  refine asI rfl ?_
  refine ⟨k + 1, ⟨rfl, trivial⟩, rfl, rfl, (kX E_k G3), fun h3 E3 => ⟨hkl, vT hkl K2 hx'⟩, by first | omega | (dsimp only; omega), ?_⟩
  repeat (first | exact qV _ _ _ | refine qX (by decide) ?_ | refine qU rfl ?_ | refine qY rfl ?_)
 skip
 have hke : k = s.joints.length := by have := geI hk; omega
 subst hke
 rw [List.take_length] at K2
 rw [if_neg (by simp [K2])] at eC
 refine wV ?_
 refine qC (qC (qA rfl ?_))
 refine qB (qD rfl rfl rfl rfl 3 rfl) ?_
 refine qL 0 (v:=.slice _ _ _) rfl rfl rfl rfl ?_
 refine qB (wP rfl rfl) ?_
 refine pvB rfl ?_
 refine qP rfl (fun q2 => ?_) (fun q2 => ?_)
 ·skip
  have q2' : s.reports.length > 5 := by have := of_decide_eq_true q2; omega
  refine qC (qA rfl ?_)
  refine asI rfl ?_
  refine qQ ?_
  refine qJ (vs:=[_]) Tryz.results31 ⟨qG rfl rfl, trivial⟩ fun V => ?_
  exact ⟨(kX (kX G1 E_k) (qN V)), intE (by rw [eC, if_pos q2'])⟩
 skip
 have q2' : ¬ s.reports.length > 5 := by have := of_decide_eq_false q2; omega
 rw [if_neg q2'] at eC
 refine qM ?_
 refine qC (qC (qA rfl ?_))
 refine asI rfl ?_
 refine qT ?_
 refine zF [2, 6, 7, 37, 38, 39, 40, 41, 42, 43, 44, 45, 46, 47, 48, 49, 50, 51, 52, 53] 1 (α:=Nat) (fun n => [(6, .int .i64 n)]) (fun n => _) (fun n h_n => n ≤ s.reports.length ∧ firstErr (checkSeenM s) (s.reports.take n) = 0) (fun n => s.reports.length - n) (0) ⟨rfl, trivial⟩ (rfl) (⟨Nat.zero_le _, rfl⟩) ?_
 rintro n T2 h_n E_n J_n
 refine qR [_] rfl ?_
 obtain ⟨N1, N2⟩ := J_n
 refine qC (qC (qA rfl ?_))
 refine mvI rfl ?_
 refine qB (qD rfl rfl rfl rfl 3 rfl) ?_
 refine qL 0 (v:=.slice _ _ _) rfl rfl rfl rfl ?_
 refine qB (wP rfl rfl) ?_
 refine pvB rfl ?_
 refine qP rfl (fun hn => ?_) (fun hn => ?_)
 ·skip
  have hnl : n < s.reports.length := ltI hn
  obtain ⟨g, off, hB, hc⟩ := (R.reports.ext (kX (kX G1 E_k) E_n)).at (by omega) hnl
  refine qM ?_
  refine qC ?_
  refine qT ?_
  refine qC ?_
  refine zL [] rfl rfl rfl ?_
  refine wD (i:=0) rfl (by decide +kernel) ?_
  refine qZ 0 (vs:=[.slice _ _ _, .slice _ _ _, .slice _ _ _, .slice _ _ _]) rfl rfl rfl rfl rfl ?_
  refine qE (i:=1) rfl (by decide +kernel) (qD rfl rfl rfl rfl 3 rfl) ?_
  refine wD (i:=2) rfl (by decide +kernel) ?_
  refine qL 0 (v:=.slice _ _ _) rfl rfl rfl rfl ?_
  refine qE (i:=3) rfl (by decide +kernel) (qK (v:=.int .i64 _) rfl) ?_
  refine qE (i:=4) rfl (by decide +kernel) (wK rfl hB rfl rfl rfl (by omega) (by omega)) ?_
  refine wD (i:=5) rfl (by decide +kernel) ?_
  refine zH rfl rfl rfl rfl (hc) ?_
  refine wU (i:=6) rfl (by decide +kernel) (by decide +kernel) ?_
  refine wI (caps:=[]) (vs:=[.agg #[.slice _ _ _, .slice _ _ _, .slice _ _ _, .slice _ _ _], .agg #[.int .i64 _, .int .i64 _, .bool _]]) rfl rfl rfl (rSeen_ok s s.reports[n] A0 A1 A2 A3 c0 c1 c2 c3 Sm2 Sm0 h_n) ?_
  rintro _ g3 G3 rfl
  refine qE (i:=7) rfl (by decide +kernel) (wA (v:=.int .i64 _) rfl) ?_
  refine zB rfl ?_
  refine qC (qA rfl ?_)
  refine mvI rfl ?_
  refine pvB rfl ?_
  refine qP rfl (fun hx => ?_) (fun hx => ?_)
  ·skip
   have hx' : checkSeenM s s.reports[n] ≠ 0 := by simpa using hx
   refine qC (qA rfl ?_)
   refine mvI rfl ?_
   refine asI rfl ?_
   refine qQ ?_
   refine qJ (vs:=[_]) Tryz.results31 ⟨qG rfl rfl, trivial⟩ fun V => ?_
   exact ⟨(kX (kX (kX (kX G1 E_k) E_n) G3) (qN V)), intE (by rw [eC, vD hnl N2 hx'])⟩
  skip
  have hx' : checkSeenM s s.reports[n] = 0 := by simpa using hx
  refine qM ?_
  refine qA rfl ?_
  refine mvI rfl ?_
  refine qB (qO rfl (by omega)) ?_
  refine asI rfl ?_
  refine ⟨n + 1, ⟨rfl, trivial⟩, rfl, rfl, (kX E_n G3), fun h3 E3 => ⟨hnl, vT hnl N2 hx'⟩, by first | omega | (dsimp only; omega), ?_⟩
  repeat (first | exact qV _ _ _ | refine qX (by decide) ?_ | refine qU rfl ?_ | refine qY rfl ?_)
 skip
 have hne : n = s.reports.length := by have := geI hn; omega
 subst hne
 rw [List.take_length] at N2
 refine wV ?_
 refine qC (qA rfl ?_)
 refine asI rfl ?_
 refine qQ ?_
 refine qJ (vs:=[_]) Tryz.results31 ⟨qG rfl rfl, trivial⟩ fun V => ?_
 exact ⟨(kX (kX (kX G1 E_k) E_n) (qN V)), intE (by rw [eC, N2])⟩
end Go.Proofs.YtboigjfgpppeaaaGreatDoor
namespace Go.Proofs.YtboigjfgpppeaaaGreatDoor
open Go Go.HL Go.Proofs Go.Wx Go.Rd
section
variable [Lvl]
set_option maxRecDepth 100000
theorem read_bad {t : List UInt8} (h : ¬ t.length > 500) {z : Int} (hz : lineN t = z) (h0 : z ≠ 0) : readS t = (s0, z, 2) := by
 rw [readS_parts, if_neg h, if_pos (by rw [hz]; exact h0), hz]
set_option maxHeartbeats 4000000 in
theorem ReadR_ok (t : List UInt8) (h : AH) : FnT Tryz.prog 13 #[.string (bs t)] h (fun v h' => ReadV1 h' t v) := by
 have hpt := readS_parts t
 obtain ⟨rows, hrows⟩ : ∃ rows, rows = splitL 10 t := ⟨_, rfl⟩
 have hrl : rows.length = cntB 10 t + 1 := by rw [hrows]; exact yX 10 t
 have hcl := cnt_le 10 t
 have hdl : rows.dropLast.length = rows.length - 1 := List.length_dropLast ..
 have hrn : ∀ r ∈ rows, r.length ≤ t.length := fun r hr => by
  rw [hrows] at hr
  exact split_len r hr
 refine qW Tryz.func13 rfl Tryz.ntmps13 rfl ?_
 refine qC (qA rfl ?_)
 refine wT (cs:=[_, _, _, _]) rfl rfl fun b2 hb2 => ?_
 refine qH [_] rfl ?_
 refine asI rfl ?_
 refine asI rfl ?_
 refine qC (qC (qA rfl ?_))
 refine mvT rfl ?_
 refine qB (zA rfl rfl) ?_
 refine pvB rfl ?_
 refine qP rfl (fun hlen => ?_) (fun hlen => ?_)
 ·skip
  have hlen' : t.length > 500 := by have := of_decide_eq_true hlen; omega
  rw [if_pos hlen'] at hpt
  refine qC (qA rfl ?_)
  refine qB (zD (zc:=[_, _, _, _]) (vs:=[]) (cs:=[_, _, _, _]) rfl rfl rfl rfl rfl rfl) ?_
  refine qS 0 (v:=.agg #[.slice _ _ _, .slice _ _ _, .slice _ _ _, .slice _ _ _]) (vs:=[_, _, _, _]) (c':=[_, _, _, _]) rfl rfl rfl rfl rfl rfl rfl rfl rfl ?_
  refine qH [_] rfl ?_
  refine asI rfl ?_
  refine asI rfl ?_
  refine qQ ?_
  refine qJ (vs:=[_, _, _]) Tryz.results13 ⟨zI 0 rfl rfl rfl rfl rfl (vs:=[.slice _ _ _, .slice _ _ _, .slice _ _ _, .slice _ _ _]) rfl, qG rfl rfl, qG rfl rfl, trivial⟩ fun V => ?_
  exact ⟨(qN V), vE hpt (seasonS0 _)⟩
 skip
 have hlen' : ¬ t.length > 500 := by have := of_decide_eq_false hlen; omega
 refine qM ?_
 refine qC (qA rfl ?_)
 refine mvT rfl ?_
 refine wI (caps:=[]) (vs:=[.string _, .int .u8 _]) rfl rfl rfl (cutR_ok t 10 h (by omega)) ?_
 rintro _ h1 E1 ⟨AR, cR, rfl, RR, hcR⟩
 rw [← hrows] at RR hcR ⊢
 refine asS rfl ?_
 refine qC (qA rfl ?_)
 refine wT (cs:=[_, _, _, _]) rfl rfl fun b6 hb6 => ?_
 refine qH [_, _] rfl ?_
 refine zN ?_
 refine qR [_, _, _] rfl ?_
 refine zN ?_
 refine qR [_, _, _, _] rfl ?_
 refine zN ?_
 refine qR [_, _, _, _, _] rfl ?_
 refine zN ?_
 refine qR [_, _, _, _, _, _] rfl ?_
 refine qC (qA rfl ?_)
 refine asB rfl ?_
 refine qC (qC (qA rfl ?_))
 refine asI rfl ?_
 refine qT ?_
 refine yC [3, 4, 7, 8, 9, 17, 18, 19, 20, 21, 22, 23, 24, 25, 26, 27, 28, 29, 30, 31, 32, 33, 34, 35, 36, 37, 38, 39, 40, 41, 42] 6 (α:=Nat × Int × Season × SAcc) (fun ⟨k, b, s, x⟩ => [(8, .int .i64 k), (7, .bool (decide (b = 4)))]) (fun ⟨k, b, s, x⟩ L => ((((L.set 1 (some (b6, .cells (sCells x).toArray 26 (0, 0)))).set 2 (x.aH.p)).set 3 (x.aD.p)).set 4 (x.aJ.p)).set 5 (x.aR.p)) (fun ⟨k, b, s, x⟩ h_k => k ≤ rows.length - 1 ∧ goS 0 0 s0 rows.dropLast = goS k b s (rows.dropLast.drop k) ∧ (b ≠ 4 → Iv b s) ∧ AccS s x ∧ LenS s k) (fun ⟨k, b, s, x⟩ => rows.length - 1 - k) ((0, 0, s0, sacc0)) ⟨rfl, rfl, trivial⟩ (rfl) (⟨Nat.zero_le _, rfl, fun _ => iv0, ⟨accR0, accR0, accR0, accR0⟩, ⟨Nat.zero_le _, Nat.zero_le _, Nat.zero_le _, Nat.zero_le _⟩⟩) ?_
 rintro ⟨k, b, s, x⟩ T1 h_k E_k J_k
 refine qR [_, _, _, _, _, _] rfl ?_
 obtain ⟨K1, K2, KI, KA, KL⟩ := J_k
 have lk0 := KL.h
 have lk1 := KL.d
 have lk2 := KL.j
 have lk3 := KL.r
 refine qC (qC (qA rfl ?_))
 refine mvI rfl ?_
 refine mvS rfl ?_
 refine qB (wP rfl rfl) ?_
 refine qB (qO rfl (by omega)) ?_
 refine pvB rfl ?_
 refine qP rfl (fun hk => ?_) (fun hk => ?_)
 ·skip
  have hkl : k < rows.length - 1 := by have := of_decide_eq_true hk; omega
  have hkr : k < rows.length := by omega
  have hkd : k < rows.dropLast.length := by omega
  have hge : rows.dropLast[k] = rows[k] := List.getElem_dropLast ..
  have hrk := hrn _ (List.getElem_mem hkr)
  rw [List.drop_eq_getElem_cons hkd, hge] at K2
  obtain ⟨g, off, hA, hc⟩ := (RR.ext E_k).at (by decide) hkr
  obtain ⟨w, ws, hws⟩ : ∃ w ws, splitL 32 rows[k] = w :: ws := by
   cases q : splitL 32 rows[k] with
   | nil => exact absurd q (kN 32 _)
   | cons w ws => exact ⟨w, ws, rfl⟩
  have hwl := yX 32 rows[k]
  have hwc := cnt_le 32 rows[k]
  rw [hws, List.length_cons] at hwl
  have hwn : ∀ r ∈ w :: ws, r.length < 2 ^ 20 := fun r hr => by
   rw [← hws] at hr
   have := split_len r hr
   omega
  refine qM ?_
  refine qC ?_
  refine qT ?_
  refine qC (qA rfl ?_)
  refine asB rfl ?_
  refine qC ?_
  refine qT ?_
  refine qC (qA rfl ?_)
  refine mvB rfl ?_
  refine asB rfl ?_
  refine qP rfl (fun he => ?_) (fun he => ?_)
  ·skip
   have hb4 : b = 4 := of_decide_eq_true he
   subst hb4
   have hbd := read_bad hlen' (lineN_bad (by rw [← hrows, K2]; exact goS_ended ..)) (by omega)
   refine qM ?_
   refine qC (qA rfl ?_)
   refine mvB rfl ?_
   refine pvB rfl ?_
   refine wW rfl (rfl) ?_
   refine qC (qA rfl ?_)
   refine qB (zD (zc:=[_, _, _, _]) (vs:=[]) (cs:=[_, _, _, _]) rfl rfl rfl rfl rfl rfl) ?_
   refine mvI rfl ?_
   refine qB (qO rfl (by omega)) ?_
   refine qS 0 (v:=.agg #[.slice _ _ _, .slice _ _ _, .slice _ _ _, .slice _ _ _]) (vs:=[_, _, _, _]) (c':=[_, _, _, _]) rfl rfl rfl rfl rfl rfl rfl rfl rfl ?_
   refine qH [_, _, _, _, _, _] rfl ?_
   refine asI rfl ?_
   refine asI rfl ?_
   refine qQ ?_
   refine qJ (vs:=[_, _, _]) Tryz.results13 ⟨zI 0 rfl rfl rfl rfl rfl (vs:=[.slice _ _ _, .slice _ _ _, .slice _ _ _, .slice _ _ _]) rfl, qG rfl rfl, qG rfl rfl, trivial⟩ fun V => ?_
   exact ⟨(kX (kX E1 E_k) (qN V)), vE hbd (seasonS0 _)⟩
  skip
  have hb4 : ¬ b = 4 := of_decide_eq_false he
  have I := KI hb4
  refine qC (qA rfl ?_)
  refine mvS rfl ?_
  refine mvI rfl ?_
  refine qB (wK rfl hA rfl rfl rfl (by omega) (by omega)) ?_
  refine wX (v:=.string _) rfl rfl ((hc) 0 _ rfl) ?_
  refine qB (yE rfl rfl) ?_
  refine asB rfl ?_
  refine qP rfl (fun hsp => ?_) (fun hsp => ?_)
  ·skip
   have hsp' : rows[k] = springB := of_decide_eq_true hsp
   refine qA rfl ?_
   refine asB rfl ?_
   refine asB rfl ?_
   refine qC (qA rfl ?_)
   refine mvB rfl ?_
   refine pvB rfl ?_
   refine wS rfl (rfl) ?_
   refine qM ?_
   refine qA rfl ?_
   refine mvI rfl ?_
   refine qB (qO rfl (by omega)) ?_
   refine asI rfl ?_
   refine ⟨(k + 1, 4, s, x), ⟨rfl, rfl, trivial⟩, rfl, rfl, E_k, fun h3 E3 => ⟨by omega, by rw [K2, hsp']; exact goS_spring I k _, fun h => absurd rfl h, KA, ⟨by omega, by omega, by omega, by omega⟩⟩, by first | omega | (dsimp only; omega), ?_⟩
   repeat (first | exact qV _ _ _ | refine qX (by decide) ?_ | refine qU rfl ?_ | refine qY rfl ?_)
  skip
  have hsp' : ¬ rows[k] = springB := of_decide_eq_false hsp
  refine qA rfl ?_
  refine mvS rfl ?_
  refine mvI rfl ?_
  refine qB (wK rfl hA rfl rfl rfl (by omega) (by omega)) ?_
  refine wX (v:=.string _) rfl rfl ((hc) 0 _ rfl) ?_
  refine wI (caps:=[]) (vs:=[.string _, .int .u8 _]) rfl rfl rfl (cutR_ok rows[k] 32 h_k (by omega)) ?_
  rintro _ h2 E2 ⟨AW, cW, rfl, RW, hcW⟩
  rw [hws] at RW hcW ⊢
  refine zM [_] [_, _, _, _, _] [] (vs:=[.pointer _, .slice _ _ _]) rfl rfl rfl (takeR_ok b6 s x w ws AW cW k h2 RW hcW hwn (by omega) KA KL (by omega)) ?_
  rintro _ h5 _ E5 ⟨rfl, x', rfl, hX⟩
  refine qH [_, _, _, _, _, _] rfl ?_
  cases q : takeX s w ws with
  | none =>
   have hbd := read_bad hlen' (lineN_bad (by rw [← hrows, K2]; exact takeX_none I hws hsp' q k _)) (by omega)
   refine asB rfl ?_
   refine qC (qA rfl ?_)
   refine mvB rfl ?_
   refine pvB rfl ?_
   refine wW rfl (rfl) ?_
   refine qC (qA rfl ?_)
   refine qB (zD (zc:=[_, _, _, _]) (vs:=[]) (cs:=[_, _, _, _]) rfl rfl rfl rfl rfl rfl) ?_
   refine mvI rfl ?_
   refine qB (qO rfl (by omega)) ?_
   refine qS 0 (v:=.agg #[.slice _ _ _, .slice _ _ _, .slice _ _ _, .slice _ _ _]) (vs:=[_, _, _, _]) (c':=[_, _, _, _]) rfl rfl rfl rfl rfl rfl rfl rfl rfl ?_
   refine qH [_, _, _, _, _, _] rfl ?_
   refine asI rfl ?_
   refine asI rfl ?_
   refine qQ ?_
   refine qJ (vs:=[_, _, _]) Tryz.results13 ⟨zI 0 rfl rfl rfl rfl rfl (vs:=[.slice _ _ _, .slice _ _ _, .slice _ _ _, .slice _ _ _]) rfl, qG rfl rfl, qG rfl rfl, trivial⟩ fun V => ?_
   exact ⟨(kX (kX (kX (kX E1 E_k) E2) E5) (qN V)), vE hbd (seasonS0 _)⟩
  | some s2 =>
   obtain ⟨p, hp1, hp2, I2⟩ := takeX_some I hws q
   have hI2 := I2.r
   refine asB rfl ?_
   refine qC (qA rfl ?_)
   refine mvB rfl ?_
   refine pvB rfl ?_
   refine wS rfl (rfl) ?_
   refine qM ?_
   refine qA rfl ?_
   refine mvI rfl ?_
   refine qB (qO rfl (by omega)) ?_
   refine asI rfl ?_
   refine ⟨(k + 1, p, s2, x'), ⟨rfl, boolQ (by rw [decide_eq_false hb4, decide_eq_false (by omega : ¬ p = 4)]), trivial⟩, rfl, rfl, (kX (kX E_k E2) E5), fun h3 E3 => ⟨by omega, by rw [K2]; exact goS_next hp1 hp2, fun _ => I2, hX s2 q, lenS_of hp1 KL⟩, by first | omega | (dsimp only; omega), ?_⟩
   repeat (first | exact qV _ _ _ | refine qX (by decide) ?_ | refine qU rfl ?_ | refine qY rfl ?_)
 skip
 have hke : k = rows.length - 1 := by have := of_decide_eq_false hk; omega
 subst hke
 have hdr : rows.dropLast.drop (rows.length - 1) = [] := List.drop_eq_nil_of_le (by omega)
 rw [hdr] at K2
 have hgo : goS 0 0 s0 (splitL 10 t).dropLast = (0, b, s) := by rw [← hrows, K2]; rfl
 have hnl : rows.length - 1 < rows.length := by omega
 have hgl : (splitL 10 t).getLast? = some rows[rows.length - 1] := by rw [← hrows, List.getLast?_eq_getElem?, List.getElem?_eq_getElem hnl]
 obtain ⟨g, off, hA, hc⟩ := (RR.ext E_k).at (by decide) hnl
 refine wV ?_
 refine qC ?_
 by_cases hb4 : b = 4
 ·have gA : (!decide (b = 4)) = false := by rw [decide_eq_true hb4]; rfl
  refine qC (qA rfl ?_)
  refine mvB rfl ?_
  refine pvB rfl ?_
  refine mvB rfl ?_
  refine qF rfl gA ?_
  refine mvS rfl ?_
  refine qF rfl gA ?_
  refine mvS rfl ?_
  refine qF rfl gA ?_
  refine qB (wP rfl rfl) ?_
  refine qF rfl gA ?_
  refine qB (qO rfl (by omega)) ?_
  refine qF rfl gA ?_
  refine qB (wK rfl hA rfl rfl rfl (by omega) (by omega)) ?_
  refine qF rfl gA ?_
  refine wX (v:=.string (bs rows[rows.length - 1])) rfl rfl (by rw [show ((rows.length : Int) - 1).toNat = rows.length - 1 by omega]; exact hc 0 _ rfl) ?_
  refine qF rfl gA ?_
  refine qB (kE rfl rfl) ?_
  refine qB (wM rfl gA (v:=.bool _) rfl) ?_
  refine qP rfl (fun hE => ?_) (fun hE => ?_)
  ·skip
   have hE' : ¬ rows[rows.length - 1] = [] := by simpa using hE
   have hbd := read_bad hlen' (lineN_end hgo (.inr (by rw [hgl]; intro e; exact hE' (Option.some.inj e)))) (by rw [← hrows]; omega)
   rw [← hrows] at hbd
   refine qC (qA rfl ?_)
   refine qB (zD (zc:=[_, _, _, _]) (vs:=[]) (cs:=[_, _, _, _]) rfl rfl rfl rfl rfl rfl) ?_
   refine mvS rfl ?_
   refine qB (wP rfl rfl) ?_
   refine qS 0 (v:=.agg #[.slice _ _ _, .slice _ _ _, .slice _ _ _, .slice _ _ _]) (vs:=[_, _, _, _]) (c':=[_, _, _, _]) rfl rfl rfl rfl rfl rfl rfl rfl rfl ?_
   refine qH [_, _, _, _, _, _] rfl ?_
   refine asI rfl ?_
   refine asI rfl ?_
   refine qQ ?_
   refine qJ (vs:=[_, _, _]) Tryz.results13 ⟨zI 0 rfl rfl rfl rfl rfl (vs:=[.slice _ _ _, .slice _ _ _, .slice _ _ _, .slice _ _ _]) rfl, qG rfl rfl, qG rfl rfl, trivial⟩ fun V => ?_
   exact ⟨(kX (kX E1 E_k) (qN V)), vE hbd (seasonS0 _)⟩
  skip
  have hE' : rows[rows.length - 1] = [] := by simpa using hE
  have hok : ¬ (b ≠ 4 ∨ (splitL 10 t).getLast? ≠ some []) := by
   rintro (h | h)
   ·exact h hb4
   exact h (by rw [hgl, hE'])
  obtain ⟨hz1, hz2⟩ := lineN_ok hgo hok
  rw [if_neg hlen', if_neg (by rw [hz1]; decide), hz2] at hpt
  obtain ⟨⟨pH, AH, nH, cH⟩, ⟨pD, AD, nD, cD⟩, ⟨pJ, AJ, nJ, cJ⟩, ⟨pR, AR2, nR, cR2⟩⟩ := x
  obtain ⟨kH, kD, kJ, kR⟩ := KA
  obtain rfl : nH = s.heats.length := by have := AccR.len kH; rw [wO (m:=2) (fun _ _ => rfl)] at this; dsimp only at this; omega
  obtain rfl : nD = s.damps.length := by have := AccR.len kD; rw [wO (m:=2) (fun _ _ => rfl)] at this; dsimp only at this; omega
  obtain rfl : nJ = s.joints.length := by have := AccR.len kJ; rw [wO (m:=9) (fun _ _ => rfl)] at this; dsimp only at this; omega
  obtain rfl : nR = s.reports.length := by have := AccR.len kR; rw [wO (m:=3) (fun _ _ => rfl)] at this; dsimp only at this; omega
  dsimp only at *
  refine yD 2 rfl ?_
  intro gH GH PH
  refine qR [_, _, _, _, _, _] rfl ?_
  refine yD 3 rfl ?_
  intro gD GD PD
  refine qR [_, _, _, _, _, _] rfl ?_
  refine yD 4 rfl ?_
  intro gJ GJ PJ
  refine qR [_, _, _, _, _, _] rfl ?_
  refine yD 5 rfl ?_
  intro gR GR PR
  refine qR [_, _, _, _, _, _] rfl ?_
  have RM : SeasonR gR AH AD AJ AR2 s := ⟨⟨fun _ _ => rfl, (AccR.rd kH PH).ext (kX (kX GD GJ) GR)⟩, ⟨fun _ _ => rfl, (AccR.rd kD PD).ext (kX GJ GR)⟩, ⟨fun _ _ => rfl, (AccR.rd kJ PJ).ext GR⟩, ⟨fun _ _ => rfl, AccR.rd kR PR⟩⟩
  have SM : Small s := ⟨by omega, by omega, by omega, by omega⟩
  refine qM ?_
  refine qC (qC (qA rfl ?_))
  refine qZ 1 (vs:=[.slice _ _ _, .slice _ _ _, .slice _ _ _, .slice _ _ _]) rfl rfl rfl rfl rfl ?_
  refine wI (caps:=[]) (vs:=[.agg #[.slice _ _ _, .slice _ _ _, .slice _ _ _, .slice _ _ _]]) rfl rfl rfl (rCheck_ok s SM AH AD AJ AR2 cH cD cJ cR2 gR RM) ?_
  rintro _ h6 E6 rfl
  refine asI rfl ?_
  refine qC (qA rfl ?_)
  refine mvI rfl ?_
  refine pvB rfl ?_
  refine qP rfl (fun hcc => ?_) (fun hcc => ?_)
  ·skip
   have hcc' : checkM s ≠ 0 := by simpa using hcc
   rw [if_pos hcc'] at hpt
   refine qC (qA rfl ?_)
   refine qB (zD (zc:=[_, _, _, _]) (vs:=[]) (cs:=[_, _, _, _]) rfl rfl rfl rfl rfl rfl) ?_
   refine mvI rfl ?_
   refine qS 0 (v:=.agg #[.slice _ _ _, .slice _ _ _, .slice _ _ _, .slice _ _ _]) (vs:=[_, _, _, _]) (c':=[_, _, _, _]) rfl rfl rfl rfl rfl rfl rfl rfl rfl ?_
   refine qH [_, _, _, _, _, _] rfl ?_
   refine asI rfl ?_
   refine asI rfl ?_
   refine qQ ?_
   refine qJ (vs:=[_, _, _]) Tryz.results13 ⟨zI 0 rfl rfl rfl rfl rfl (vs:=[.slice _ _ _, .slice _ _ _, .slice _ _ _, .slice _ _ _]) rfl, qG rfl rfl, qG rfl rfl, trivial⟩ fun V => ?_
   exact ⟨(kX (kX (kX (kX (kX (kX (kX E1 E_k) GH) GD) GJ) GR) E6) (qN V)), vE hpt (seasonS0 _)⟩
  skip
  have hcc' : ¬ checkM s ≠ 0 := by simpa using hcc
  rw [if_neg hcc'] at hpt
  refine qM ?_
  refine qC (qA rfl ?_)
  refine qZ 1 (vs:=[.slice _ _ _, .slice _ _ _, .slice _ _ _, .slice _ _ _]) rfl rfl rfl rfl rfl ?_
  refine qS 0 (v:=.agg #[.slice _ _ _, .slice _ _ _, .slice _ _ _, .slice _ _ _]) (vs:=[_, _, _, _]) (c':=[_, _, _, _]) rfl rfl rfl rfl rfl rfl rfl rfl rfl ?_
  refine qH [_, _, _, _, _, _] rfl ?_
  refine asI rfl ?_
  refine asI rfl ?_
  refine qQ ?_
  refine qJ (vs:=[_, _, _]) Tryz.results13 ⟨zI 0 rfl rfl rfl rfl rfl (vs:=[.slice _ _ _, .slice _ _ _, .slice _ _ _, .slice _ _ _]) rfl, qG rfl rfl, qG rfl rfl, trivial⟩ fun V => ?_
  exact ⟨(kX (kX (kX (kX (kX (kX (kX E1 E_k) GH) GD) GJ) GR) E6) (qN V)), vE hpt ⟨AH, AD, AJ, AR2, cH, cD, cJ, cR2, rfl, RM.ext (kX E6 (qN V))⟩⟩
 skip
 have gA : (!decide (b = 4)) = true := by rw [decide_eq_false hb4]; rfl
 have hbd := read_bad hlen' (lineN_end hgo (.inl hb4)) (by rw [← hrows]; omega)
 rw [← hrows] at hbd
 refine qC (qA rfl ?_)
 refine mvB rfl ?_
 refine pvB rfl ?_
 refine mvB rfl ?_
 refine qI rfl gA ?_
 refine qI rfl gA ?_
 refine qI rfl gA ?_
 refine qI rfl gA ?_
 refine qI rfl gA ?_
 refine qI rfl gA ?_
 refine qI rfl gA ?_
 refine qB (wN rfl gA (v:=.bool _) rfl) ?_
 refine wW rfl (rfl) ?_
 refine qC (qA rfl ?_)
 refine qB (zD (zc:=[_, _, _, _]) (vs:=[]) (cs:=[_, _, _, _]) rfl rfl rfl rfl rfl rfl) ?_
 refine mvS rfl ?_
 refine qB (wP rfl rfl) ?_
 refine qS 0 (v:=.agg #[.slice _ _ _, .slice _ _ _, .slice _ _ _, .slice _ _ _]) (vs:=[_, _, _, _]) (c':=[_, _, _, _]) rfl rfl rfl rfl rfl rfl rfl rfl rfl ?_
 refine qH [_, _, _, _, _, _] rfl ?_
 refine asI rfl ?_
 refine asI rfl ?_
 refine qQ ?_
 refine qJ (vs:=[_, _, _]) Tryz.results13 ⟨zI 0 rfl rfl rfl rfl rfl (vs:=[.slice _ _ _, .slice _ _ _, .slice _ _ _, .slice _ _ _]) rfl, qG rfl rfl, qG rfl rfl, trivial⟩ fun V => ?_
 exact ⟨(kX (kX E1 E_k) (qN V)), vE hbd (seasonS0 _)⟩
end
end Go.Proofs.YtboigjfgpppeaaaGreatDoor
namespace Go.Wx
open Go.Rd
def argL (x : Rg) : List UInt8 := 32 :: rgL x
theorem argL_len (x : Rg) : (argL x).length ≤ 10 := by have := vX x; unfold argL; rw [List.length_cons]; omega
end Go.Wx
namespace Go.Proofs.YtboigjfgpppeaaaGreatDoor
open Go Go.HL Go.Proofs Go.Wx Go.Rd
section
variable [Lvl]
set_option maxRecDepth 100000
set_option maxHeartbeats 1000000 in
theorem lineR_ok (w : List UInt8) (l : List Rg) (A : Option Addr) (c : Nat) (h : AH) (PW : Pow h) (R : Row h 2 rgC A l) (hw : w.length ≤ 10) (hl : l.length ≤ 4) (hn : ∀ x ∈ l, RgE x) : FnT Tryz.prog 32 #[.string (bs w), .slice A l.length c] h (fun v _ => v = .string (bs (w ++ l.flatMap argL ++ [10]))) := by
 refine qW Tryz.func32 rfl Tryz.ntmps32 rfl ?_
 refine qC (qA rfl ?_)
 refine asT rfl ?_
 refine qC (qC (qA rfl ?_))
 refine asI rfl ?_
 refine qT ?_
 refine zF [0, 5, 6, 7, 8, 9, 10, 11, 12, 13, 14, 15, 16, 17, 18, 19, 20, 21, 22, 23, 24, 25, 26, 27, 28] 0 (α:=Nat) (fun k => [(5, .int .i64 k), (0, .string (bs (w ++ (l.take k).flatMap argL)))]) (fun k => _) (fun k h_k => k ≤ l.length) (fun k => l.length - k) (0) ⟨rfl, strE (by simp), trivial⟩ (rfl) (Nat.zero_le _) ?_
 rintro k T1 h_k E_k J_k
 refine qR [] rfl ?_
 have z1 := kG argL 10 argL_len (l.take k)
 have z2 : (l.take k).length ≤ 4 := by rw [List.length_take]; omega
 refine qC (qC (qA rfl ?_))
 refine mvI rfl ?_
 refine mvS rfl ?_
 refine qB (wP rfl rfl) ?_
 refine pvB rfl ?_
 refine qP rfl (fun hk => ?_) (fun hk => ?_)
 ·skip
  have hkl : k < l.length := ltI hk
  obtain ⟨g, off, hA, hg⟩ := (R.ext E_k).at (by omega) hkl
  have hr := hn _ (List.getElem_mem hkl)
  have w1 := vA (n:=l[k].mn)
  have w2 := vA (n:=l[k].mx)
  refine qM ?_
  refine qC ?_
  refine qT ?_
  refine zL [] rfl rfl rfl ?_
  refine qE (i:=0) rfl (by decide +kernel) (qK (v:=.string _) rfl) ?_
  refine qE (i:=1) rfl (by decide +kernel) (zT (b:=[32]) rfl rfl (by rw [List.length_append]; show _ + 1 < _; omega)) ?_
  refine qE (i:=2) rfl (by decide +kernel) (qK (v:=.slice _ _ _) rfl) ?_
  refine qE (i:=3) rfl (by decide +kernel) (qK (v:=.int .i64 _) rfl) ?_
  refine qE (i:=4) rfl (by decide +kernel) (wK rfl hA rfl rfl rfl (by omega) (by omega)) ?_
  refine qE (i:=5) rfl (by decide +kernel) (qD rfl rfl rfl rfl _ rfl) ?_
  refine wD (i:=6) rfl (by decide +kernel) ?_
  refine wX (v:=.int .i64 l[k].mn) rfl rfl (hg 0 _ rfl) ?_
  refine qE (i:=10) rfl (by decide +kernel) (qK (v:=.slice _ _ _) rfl) ?_
  refine qE (i:=11) rfl (by decide +kernel) (qK (v:=.int .i64 _) rfl) ?_
  refine qE (i:=12) rfl (by decide +kernel) (wK rfl hA rfl rfl rfl (by omega) (by omega)) ?_
  refine qE (i:=13) rfl (by decide +kernel) (qD rfl rfl rfl rfl _ rfl) ?_
  refine wD (i:=14) rfl (by decide +kernel) ?_
  refine wX (v:=.int .i64 l[k].mx) rfl rfl (hg 1 _ rfl) ?_
  refine wZ (i:=7) rfl (by decide +kernel) ?_
  refine wI (caps:=[]) (vs:=[.int .i64 _]) rfl rfl rfl (itoaE_ok l[k].mn h_k (PW.ext E_k) hr.1) ?_
  rintro _ h2 E2 rfl
  refine ⟨zJ E2 _, ?_⟩
  refine qE (i:=8) rfl (by decide +kernel) (zT rfl rfl (by simp only [List.length_append, List.length_cons, List.length_nil]; omega)) ?_
  refine qE (i:=9) rfl (by decide +kernel) (zT (b:=[47]) rfl rfl (by simp only [List.length_append, List.length_cons, List.length_nil]; omega)) ?_
  refine wU (i:=15) rfl (by decide +kernel) (by decide +kernel) ?_
  refine wI (caps:=[]) (vs:=[.int .i64 _]) rfl rfl rfl (itoaE_ok l[k].mx h2 (PW.ext (kX E_k E2)) hr.2) ?_
  rintro _ h3 E3 rfl
  refine qE (i:=16) rfl (by decide +kernel) (zT rfl rfl (by simp only [List.length_append, List.length_cons, List.length_nil]; omega)) ?_
  refine qE (i:=17) rfl (by decide +kernel) (wA (v:=.string _) rfl) ?_
  refine zB rfl ?_
  refine qA rfl ?_
  refine mvI rfl ?_
  refine qB (qO rfl (by omega)) ?_
  refine asI rfl ?_
  refine ⟨k + 1, ⟨rfl, strE (by rw [flat_take argL hkl]; simp [argL, rgL]), trivial⟩, rfl, rfl, (kX (kX E_k E2) E3), fun h3 E3 => hkl, by first | omega | (dsimp only; omega), ?_⟩
  repeat (first | exact qV _ _ _ | refine qX (by decide) ?_ | refine qU rfl ?_ | refine qY rfl ?_)
 skip
 have hke : k = l.length := by have := geI hk; omega
 subst hke
 rw [List.take_length] at z1 z2
 refine wV ?_
 refine qC (qA rfl ?_)
 refine mvT rfl ?_
 refine qB (zT (b:=[10]) rfl rfl (by rw [List.take_length, List.length_append]; show _ + 1 < _; omega)) ?_
 refine asT rfl ?_
 refine qQ ?_
 refine qJ (vs:=[_]) Tryz.results32 ⟨qG rfl rfl, trivial⟩ fun V => ?_
 exact ⟨(kX E_k (qN V)), by rw [List.take_length]; rfl⟩
theorem week_e (a b : Rg) : weekB ++ [a, b].flatMap argL ++ [10] = weekL (a, b) := by
 unfold weekL argL weekB
 simp
theorem joint_e (j : Joint) : kindW j.kind ++ [j.high, j.low, j.weeks, j.life].flatMap argL ++ [10] = jointL j := by
 unfold jointL argL
 simp
def tailW (b : Bool) : List UInt8 := if b then [32, 102, 97, 105, 108, 101, 100, 10] else [32, 119, 104, 111, 108, 101, 10]
theorem tailW_len (b : Bool) : (tailW b).length ≤ 8 := by unfold tailW; split <;> decide
theorem seen_e (r : Seen) : [115, 101, 101, 110, 32] ++ itoaL r.joint ++ [32] ++ itoaL r.week ++ tailW r.failed = seenL r := by
 unfold seenL tailW seenW
 cases r.failed <;> simp
set_option maxHeartbeats 4000000 in
theorem WriteR_ok (s : Season) (Sm : Small s) (A0 A1 A2 A3 : Option Addr) (c0 c1 c2 c3 : Nat) (h : AH) (PW : Pow h) (R : SeasonR h A0 A1 A2 A3 s) :
  FnT Tryz.prog 10 #[seasonV A0 A1 A2 A3 c0 c1 c2 c3 s] h (fun v _ => v = writeSV s) := by
 refine qW Tryz.func10 rfl Tryz.ntmps10 rfl ?_
 refine qC (qA rfl ?_)
 refine zC (v:=.agg #[.slice _ _ _, .slice _ _ _, .slice _ _ _, .slice _ _ _]) (cs:=[_, _, _, _]) rfl rfl fun b1 hb1 => ?_
 refine qH [_] rfl ?_
 refine asT rfl ?_
 refine asI rfl ?_
 refine qC (qC (qA rfl ?_))
 refine qZ 0 (vs:=[.slice _ _ _, .slice _ _ _, .slice _ _ _, .slice _ _ _]) rfl rfl rfl rfl rfl ?_
 refine wI (caps:=[]) (vs:=[.agg #[.slice _ _ _, .slice _ _ _, .slice _ _ _, .slice _ _ _]]) rfl rfl rfl (rCheck_ok s Sm A0 A1 A2 A3 c0 c1 c2 c3 h (R.ext (Ext.refl _))) ?_
 rintro _ h1 E1 rfl
 refine asI rfl ?_
 refine qC (qA rfl ?_)
 refine mvI rfl ?_
 refine pvB rfl ?_
 refine qP rfl (fun hc => ?_) (fun hc => ?_)
 ·skip
  have hc' : checkM s ≠ 0 := by simpa using hc
  refine qC (qA rfl ?_)
  refine mvI rfl ?_
  refine asT rfl ?_
  refine asI rfl ?_
  refine qQ ?_
  refine qJ (vs:=[_, _]) Tryz.results10 ⟨qG rfl rfl, qG rfl rfl, trivial⟩ fun V => ?_
  exact ⟨(kX E1 (qN V)), by rw [writeSV, if_neg hc']; rfl⟩
 skip
 have hc' : checkM s = 0 := by simpa using hc
 obtain ⟨N, q2, q1, q3, q4⟩ := checkM_num hc'
 have hzl : (s.heats.zip s.damps).length = s.heats.length := by rw [List.length_zip]; omega
 refine qM ?_
 refine qC (qA rfl ?_)
 refine asT rfl ?_
 refine qC (qC (qA rfl ?_))
 refine asI rfl ?_
 refine qT ?_
 refine zF [5, 6, 18, 19, 20, 21, 22, 23, 24, 25, 26, 27, 28, 29, 30, 31, 32, 33, 34, 35, 36, 37, 38] 1 (α:=Nat) (fun k => [(6, .int .i64 k), (5, .string (bs (((s.heats.zip s.damps).take k).flatMap weekL)))]) (fun k => _) (fun k h_k => k ≤ s.heats.length) (fun k => s.heats.length - k) (0) ⟨rfl, strE (by simp), trivial⟩ (rfl) (Nat.zero_le _) ?_
 rintro k T1 h_k E_k J_k
 refine qR [_] rfl ?_
 have z1 := kG weekL 25 weekL_len ((s.heats.zip s.damps).take k)
 have z2 : ((s.heats.zip s.damps).take k).length ≤ 6 := by rw [List.length_take]; omega
 refine qC (qC (qA rfl ?_))
 refine mvI rfl ?_
 refine qB (qD rfl rfl rfl rfl 0 rfl) ?_
 refine qL 0 (v:=.slice _ _ _) rfl rfl rfl rfl ?_
 refine qB (wP rfl rfl) ?_
 refine pvB rfl ?_
 refine qP rfl (fun hk => ?_) (fun hk => ?_)
 ·skip
  have hkl : k < s.heats.length := ltI hk
  have hkd : k < s.damps.length := by omega
  have hkz : k < (s.heats.zip s.damps).length := by omega
  obtain ⟨g, off, hA, hg⟩ := (R.heats.ext (kX E1 E_k)).at (by omega) hkl
  obtain ⟨g2, off2, hA2, hg2⟩ := (R.damps.ext (kX E1 E_k)).at (by omega) hkd
  have w1 := weekL_len (s.heats[k], s.damps[k])
  have hnn : ∀ x ∈ [s.heats[k], s.damps[k]], RgE x := fun x hx => by
   simp only [List.mem_cons, List.not_mem_nil, or_false] at hx
   rcases hx with rfl | rfl
   ·exact N.hb _ (List.getElem_mem hkl)
   exact N.db _ (List.getElem_mem hkd)
  refine qM ?_
  refine qC ?_
  refine qT ?_
  refine zL [] rfl rfl rfl ?_
  refine qE (i:=0) rfl (by decide +kernel) (qK (v:=.string _) rfl) ?_
  refine qE (i:=1) rfl (by decide +kernel) (qD rfl rfl rfl rfl 0 rfl) ?_
  refine wD (i:=2) rfl (by decide +kernel) ?_
  refine qL 0 (v:=.slice _ _ _) rfl rfl rfl rfl ?_
  refine qE (i:=3) rfl (by decide +kernel) (qK (v:=.int .i64 _) rfl) ?_
  refine qE (i:=4) rfl (by decide +kernel) (wK rfl hA rfl rfl rfl (by omega) (by omega)) ?_
  refine wD (i:=5) rfl (by decide +kernel) ?_
  refine zH rfl rfl rfl rfl (hg) ?_
  refine qE (i:=6) rfl (by decide +kernel) (qD rfl rfl rfl rfl 1 rfl) ?_
  refine wD (i:=7) rfl (by decide +kernel) ?_
  refine qL 0 (v:=.slice _ _ _) rfl rfl rfl rfl ?_
  refine qE (i:=8) rfl (by decide +kernel) (qK (v:=.int .i64 _) rfl) ?_
  refine qE (i:=9) rfl (by decide +kernel) (wK rfl hA2 rfl rfl rfl (by omega) (by omega)) ?_
  refine wD (i:=10) rfl (by decide +kernel) ?_
  refine zH rfl rfl rfl rfl (hg2) ?_
  refine wU (i:=11) rfl (by decide +kernel) (by decide +kernel) ?_
  refine wG (zc:=[_, _]) (vs:=[(0, .agg #[.int .i64 _, .int .i64 _]), (1, .agg #[.int .i64 _, .int .i64 _])]) (cs:=[_, _, _, _]) rfl rfl rfl rfl rfl rfl rfl fun b36 hb36 => ?_
  refine wJ [_, _] rfl ?_
  refine dw_pub 1 rfl ?_
  intro h9 E9 hb9
  refine wJ [_, _] rfl ?_
  refine wU (i:=12) rfl (by decide +kernel) (by decide +kernel) ?_
  refine wI (caps:=[]) (vs:=[.string _, .slice _ _ _]) rfl rfl rfl (lineR_ok weekB [s.heats[k], s.damps[k]] _ _ h9 (PW.ext (kX (kX E1 E_k) E9)) (row_blk (enc:=rgC) (fun _ _ => rfl) hb9) (by decide) (by simp) hnn) ?_
  rintro v5 h5 E5 hv5
  rw [week_e] at hv5
  subst hv5
  refine qE (i:=13) rfl (by decide +kernel) (zT rfl rfl (by omega)) ?_
  refine qE (i:=14) rfl (by decide +kernel) (wA (v:=.string _) rfl) ?_
  refine zB rfl ?_
  refine qA rfl ?_
  refine mvI rfl ?_
  refine qB (qO rfl (by omega)) ?_
  refine asI rfl ?_
  refine ⟨k + 1, ⟨rfl, strE (by rw [flat_take weekL hkz, List.getElem_zip]), trivial⟩, rfl, rfl, (kX (kX E_k E9) E5), fun h3 E3 => hkl, by first | omega | (dsimp only; omega), ?_⟩
  repeat (first | exact qV _ _ _ | refine qX (by decide) ?_ | refine qU rfl ?_ | refine qY rfl ?_)
 skip
 have hke : k = s.heats.length := by have := geI hk; omega
 subst hke
 rw [← hzl, List.take_length] at z1 z2
 have y1 : (ws1 s).length < 200 := by unfold ws1; omega
 have e1 : ((s.heats.zip s.damps).take s.heats.length).flatMap weekL = ws1 s := by rw [← hzl, List.take_length]; rfl
 refine wV ?_
 refine qC (qC (qA rfl ?_))
 refine asI rfl ?_
 refine qT ?_
 refine zF [5, 7, 8, 9, 39, 40, 41, 42, 43, 44, 45, 46, 47, 48, 49, 50, 51, 52, 53, 54, 55, 56, 57, 58, 59, 60, 61, 62, 63, 64, 65, 66] 1 (α:=Nat) (fun k2 => [(7, .int .i64 k2), (5, .string (bs (ws1 s ++ (s.joints.take k2).flatMap jointL)))]) (fun k2 => _) (fun k2 h_k2 => k2 ≤ s.joints.length) (fun k2 => s.joints.length - k2) (0) ⟨rfl, strE (by rw [e1]; simp), trivial⟩ (rfl) (Nat.zero_le _) ?_
 rintro k2 T2 h_k2 E_k2 J_k2
 refine qR [_] rfl ?_
 have x1 := kG jointL 48 jointL_len (s.joints.take k2)
 have x2 : (s.joints.take k2).length ≤ 3 := by rw [List.length_take]; omega
 refine qC (qC (qA rfl ?_))
 refine mvI rfl ?_
 refine qB (qD rfl rfl rfl rfl 2 rfl) ?_
 refine qL 0 (v:=.slice _ _ _) rfl rfl rfl rfl ?_
 refine qB (wP rfl rfl) ?_
 refine pvB rfl ?_
 refine qP rfl (fun hk2 => ?_) (fun hk2 => ?_)
 ·skip
  have hkl : k2 < s.joints.length := ltI hk2
  obtain ⟨g, off, hA, hg⟩ := (R.joints.ext (kX (kX E1 E_k) E_k2)).at (by omega) hkl
  obtain ⟨nj1, nj2, nj3, nj4⟩ := N.jb _ (List.getElem_mem hkl)
  have hje := joint_e s.joints[k2]
  have hjl := jointL_len s.joints[k2]
  have hkw := kindW_len s.joints[k2].kind
  generalize hjd : s.joints[k2] = j at *
  have hnn : ∀ x ∈ [j.high, j.low, j.weeks, j.life], RgE x := fun x hx => by
   simp only [List.mem_cons, List.not_mem_nil, or_false] at hx
   rcases hx with rfl | rfl | rfl | rfl
   ·exact nj1
   ·exact nj2
   ·exact nj3
   exact nj4
  refine qM ?_
  refine qC ?_
  refine qT ?_
  refine qC (qA rfl ?_)
  refine qB (qD rfl rfl rfl rfl 2 rfl) ?_
  refine qL 0 (v:=.slice _ _ _) rfl rfl rfl rfl ?_
  refine mvI rfl ?_
  refine qB (wK rfl hA rfl rfl rfl (by omega) (by omega)) ?_
  refine zH rfl rfl rfl rfl (hg) ?_
  refine wT (cs:=[_, _, _, _, _, _, _, _, _]) rfl rfl fun b8 hb8 => ?_
  refine qH [_, _] rfl ?_
  refine qS 1 (v:=.agg #[.int .i64 _, .int .i64 _, .int .i64 _, .int .i64 _, .int .i64 _, .int .i64 _, .int .i64 _, .int .i64 _, .int .i64 _]) (vs:=[_, _, _, _, _, _, _, _, _]) (c':=[_, _, _, _, _, _, _, _, _]) rfl rfl rfl rfl rfl rfl rfl rfl rfl ?_
  refine qH [_, _] rfl ?_
  refine qC (qA rfl ?_)
  refine asT rfl ?_
  refine zU [9, 51, 52, 53] 2 (α:=Unit) (fun u => [(9, .string (bs (kindW j.kind)))]) (fun u L => L) (fun u h_u => True) ?_ ?_
  ·skip
   refine qC (qA rfl ?_)
   refine qB (qD rfl rfl rfl rfl 0 rfl) ?_
   refine qL 1 (v:=.int .i64 _) rfl rfl rfl rfl ?_
   refine pvB rfl ?_
   refine qP rfl (fun hj => ?_) (fun hj => ?_)
   ·skip
    have hj' : j.kind = 2 := by simpa using hj
    refine qA rfl ?_
    refine asT rfl ?_
    refine ⟨(), ⟨strE (by rw [kindW, if_pos hj']), trivial⟩, rfl, rfl, (Ext.refl _), fun h3 E3 => by first | trivial | omega | (refine ⟨?_, ?_⟩ <;> omega), ?_⟩
    repeat (first | exact wQ _ _ | exact qV _ _ _ | refine qX (by decide) ?_ | refine qU rfl ?_ | refine qY rfl ?_)
   skip
   have hj' : ¬ j.kind = 2 := by simpa using hj
   refine qM ?_
   refine ⟨(), ⟨strE (by rw [kindW, if_neg hj']), trivial⟩, rfl, rfl, (Ext.refl _), fun h3 E3 => by first | trivial | omega | (refine ⟨?_, ?_⟩ <;> omega), ?_⟩
   repeat (first | exact wQ _ _ | exact qV _ _ _ | refine qX (by decide) ?_ | refine qU rfl ?_ | refine qY rfl ?_)
  rintro u T3 h_u E_u J_u
  refine qR [_, _] rfl ?_
  refine qA rfl ?_
  refine mvT rfl ?_
  refine mvT rfl ?_
  refine qB (qD rfl rfl rfl rfl 1 rfl) ?_
  refine qZ 1 (vs:=[.int .i64 _, .int .i64 _]) rfl rfl rfl rfl rfl ?_
  refine qB (qD rfl rfl rfl rfl 3 rfl) ?_
  refine qZ 1 (vs:=[.int .i64 _, .int .i64 _]) rfl rfl rfl rfl rfl ?_
  refine qB (qD rfl rfl rfl rfl 5 rfl) ?_
  refine qZ 1 (vs:=[.int .i64 _, .int .i64 _]) rfl rfl rfl rfl rfl ?_
  refine qB (qD rfl rfl rfl rfl 7 rfl) ?_
  refine qZ 1 (vs:=[.int .i64 _, .int .i64 _]) rfl rfl rfl rfl rfl ?_
  refine wG (zc:=[_, _]) (vs:=[(0, .agg #[.int .i64 _, .int .i64 _]), (1, .agg #[.int .i64 _, .int .i64 _]), (2, .agg #[.int .i64 _, .int .i64 _]), (3, .agg #[.int .i64 _, .int .i64 _])]) (cs:=[_, _, _, _, _, _, _, _]) rfl rfl rfl rfl rfl rfl rfl fun b64 hb64 => ?_
  refine qH [_, _, _] rfl ?_
  refine wp_pub 2 rfl rfl ?_
  intro h9 E9 hb9
  refine qH [_, _, _] rfl ?_
  refine wI (caps:=[]) (vs:=[.string _, .slice _ _ _]) rfl rfl rfl (lineR_ok (kindW j.kind) [j.high, j.low, j.weeks, j.life] _ _ h9 (PW.ext (kX (kX (kX (kX E1 E_k) E_k2) E_u) E9)) (row_blk (enc:=rgC) (fun _ _ => rfl) hb9) (by omega) (by simp) hnn) ?_
  rintro v5 h5 E5 hv5
  rw [hje] at hv5
  subst hv5
  refine qB (zT rfl rfl (by rw [List.length_append]; omega)) ?_
  refine asT rfl ?_
  refine qA rfl ?_
  refine mvI rfl ?_
  refine qB (qO rfl (by omega)) ?_
  refine asI rfl ?_
  refine ⟨k2 + 1, ⟨rfl, strE (by rw [flat_take jointL hkl, hjd]; exact List.append_assoc _ _ _), trivial⟩, rfl, rfl, (kX (kX (kX E_k2 E_u) E9) E5), fun h3 E3 => hkl, by first | omega | (dsimp only; omega), ?_⟩
  repeat (first | exact qV _ _ _ | refine qX (by decide) ?_ | refine qU rfl ?_ | refine qY rfl ?_)
 skip
 have hke : k2 = s.joints.length := by have := geI hk2; omega
 subst hke
 rw [List.take_length] at x1 x2
 have y2 : (ws2 s).length < 400 := by unfold ws2; rw [List.length_append]; omega
 refine wV ?_
 refine qC (qC (qA rfl ?_))
 refine asI rfl ?_
 refine qT ?_
 refine zF [5, 10, 11, 12, 67, 68, 69, 70, 71, 72, 73, 74, 75, 76, 77, 78, 79, 80, 81, 82, 83, 84, 85, 86, 87, 88, 89, 90, 91, 92, 93] 1 (α:=Nat) (fun k3 => [(10, .int .i64 k3), (5, .string (bs (ws2 s ++ (s.reports.take k3).flatMap seenL)))]) (fun k3 => _) (fun k3 h_k3 => k3 ≤ s.reports.length) (fun k3 => s.reports.length - k3) (0) ⟨rfl, strE (by rw [List.take_length]; simp [ws2]), trivial⟩ (rfl) (Nat.zero_le _) ?_
 rintro k3 T4 h_k3 E_k3 J_k3
 refine qR [_] rfl ?_
 have v1 := kG seenL 22 seenL_len (s.reports.take k3)
 have v2 : (s.reports.take k3).length ≤ 5 := by rw [List.length_take]; omega
 refine qC (qC (qA rfl ?_))
 refine mvI rfl ?_
 refine qB (qD rfl rfl rfl rfl 3 rfl) ?_
 refine qL 0 (v:=.slice _ _ _) rfl rfl rfl rfl ?_
 refine qB (wP rfl rfl) ?_
 refine pvB rfl ?_
 refine qP rfl (fun hk3 => ?_) (fun hk3 => ?_)
 ·skip
  have hkl : k3 < s.reports.length := ltI hk3
  obtain ⟨g, off, hA, hg⟩ := (R.reports.ext (kX (kX (kX E1 E_k) E_k2) E_k3)).at (by omega) hkl
  obtain ⟨nr1, nr2⟩ := N.rb _ (List.getElem_mem hkl)
  have hse := seen_e s.reports[k3]
  have w5 := tailW_len s.reports[k3].failed
  generalize hrd : s.reports[k3] = r at *
  have w1 := vA (n:=r.joint)
  have w2 := vA (n:=r.week)
  refine qM ?_
  refine qC ?_
  refine qT ?_
  refine qC (qA rfl ?_)
  refine qB (qD rfl rfl rfl rfl 3 rfl) ?_
  refine qL 0 (v:=.slice _ _ _) rfl rfl rfl rfl ?_
  refine mvI rfl ?_
  refine qB (wK rfl hA rfl rfl rfl (by omega) (by omega)) ?_
  refine zH rfl rfl rfl rfl (hg) ?_
  refine wT (cs:=[_, _, _]) rfl rfl fun b11 hb11 => ?_
  refine qH [_, _] rfl ?_
  refine qS 1 (v:=.agg #[.int .i64 _, .int .i64 _, .bool _]) (vs:=[_, _, _]) (c':=[_, _, _]) rfl rfl rfl rfl rfl rfl rfl rfl rfl ?_
  refine qH [_, _] rfl ?_
  refine qC (qA rfl ?_)
  refine asT rfl ?_
  refine zU [12, 79, 80] 2 (α:=Unit) (fun u => [(12, .string (bs (tailW r.failed)))]) (fun u L => L) (fun u h_u => True) ?_ ?_
  ·skip
   refine qC (qA rfl ?_)
   refine qB (qD rfl rfl rfl rfl 2 rfl) ?_
   refine qL 1 (v:=.bool _) rfl rfl rfl rfl ?_
   refine qP rfl (fun hj => ?_) (fun hj => ?_)
   ·skip
    refine qA rfl ?_
    refine asT rfl ?_
    refine ⟨(), ⟨strE (by rw [tailW, if_pos hj]), trivial⟩, rfl, rfl, (Ext.refl _), fun h3 E3 => by first | trivial | omega | (refine ⟨?_, ?_⟩ <;> omega), ?_⟩
    repeat (first | exact wQ _ _ | exact qV _ _ _ | refine qX (by decide) ?_ | refine qU rfl ?_ | refine qY rfl ?_)
   skip
   refine qM ?_
   refine ⟨(), ⟨strE (by rw [tailW, hj]; rfl), trivial⟩, rfl, rfl, (Ext.refl _), fun h3 E3 => by first | trivial | omega | (refine ⟨?_, ?_⟩ <;> omega), ?_⟩
   repeat (first | exact wQ _ _ | exact qV _ _ _ | refine qX (by decide) ?_ | refine qU rfl ?_ | refine qY rfl ?_)
  rintro u T5 h_u E_u J_u
  refine qR [_, _] rfl ?_
  refine zL [] rfl rfl rfl ?_
  refine qE (i:=0) rfl (by decide +kernel) (qK (v:=.string _) rfl) ?_
  refine qE (i:=1) rfl (by decide +kernel) (zT (b:=[115, 101, 101, 110, 32]) rfl rfl (by rw [List.length_append]; show _ + 5 < _; omega)) ?_
  refine qE (i:=2) rfl (by decide +kernel) (qD rfl rfl rfl rfl 0 rfl) ?_
  refine wD (i:=3) rfl (by decide +kernel) ?_
  refine qL 1 (v:=.int .i64 _) rfl rfl rfl rfl ?_
  refine qE (i:=7) rfl (by decide +kernel) (qD rfl rfl rfl rfl 1 rfl) ?_
  refine wD (i:=8) rfl (by decide +kernel) ?_
  refine qL 1 (v:=.int .i64 _) rfl rfl rfl rfl ?_
  refine qE (i:=11) rfl (by decide +kernel) (qK (v:=.string _) rfl) ?_
  refine wZ (i:=4) rfl (by decide +kernel) ?_
  refine wI (caps:=[]) (vs:=[.int .i64 _]) rfl rfl rfl (itoaE_ok r.joint h_u (PW.ext (kX (kX (kX (kX E1 E_k) E_k2) E_k3) E_u)) nr1) ?_
  rintro _ h2 E2 rfl
  refine ⟨zJ E2 _, ?_⟩
  refine qE (i:=5) rfl (by decide +kernel) (zT rfl rfl (by simp only [List.length_append, List.length_cons, List.length_nil]; omega)) ?_
  refine qE (i:=6) rfl (by decide +kernel) (zT (b:=[32]) rfl rfl (by simp only [List.length_append, List.length_cons, List.length_nil]; omega)) ?_
  refine wU (i:=9) rfl (by decide +kernel) (by decide +kernel) ?_
  refine wI (caps:=[]) (vs:=[.int .i64 _]) rfl rfl rfl (itoaE_ok r.week h2 (PW.ext (kX (kX (kX (kX (kX E1 E_k) E_k2) E_k3) E_u) E2)) nr2) ?_
  rintro _ h3 E3 rfl
  refine qE (i:=10) rfl (by decide +kernel) (zT rfl rfl (by simp only [List.length_append, List.length_cons, List.length_nil]; omega)) ?_
  refine qE (i:=12) rfl (by decide +kernel) (zT rfl rfl (by simp only [List.length_append, List.length_cons, List.length_nil]; omega)) ?_
  refine qE (i:=13) rfl (by decide +kernel) (wA (v:=.string _) rfl) ?_
  refine zB rfl ?_
  refine qA rfl ?_
  refine mvI rfl ?_
  refine qB (qO rfl (by omega)) ?_
  refine asI rfl ?_
  refine ⟨k3 + 1, ⟨rfl, strE (by rw [flat_take seenL hkl, hrd, ← hse]; simp), trivial⟩, rfl, rfl, (kX (kX (kX E_k3 E_u) E2) E3), fun h3 E3 => hkl, by first | omega | (dsimp only; omega), ?_⟩
  repeat (first | exact qV _ _ _ | refine qX (by decide) ?_ | refine qU rfl ?_ | refine qY rfl ?_)
 skip
 have hke : k3 = s.reports.length := by have := geI hk3; omega
 subst hke
 rw [List.take_length] at v1 v2
 refine wV ?_
 refine qC (qA rfl ?_)
 refine mvT rfl ?_
 refine qB (zT (b:=[115, 112, 114, 105, 110, 103, 10]) rfl rfl (by rw [List.take_length, List.length_append]; show _ + 7 < _; omega)) ?_
 refine asT rfl ?_
 refine asI rfl ?_
 refine qQ ?_
 refine qJ (vs:=[_, _]) Tryz.results10 ⟨qG rfl rfl, qG rfl rfl, trivial⟩ fun V => ?_
 exact ⟨(kX (kX (kX (kX E1 E_k) E_k2) E_k3) (qN V)), by rw [writeSV, if_pos hc', hc']; exact congrArg (fun z => Value.tuple #[.string (bs z), .int .i64 0]) (show (ws2 s ++ (s.reports.take s.reports.length).flatMap seenL) ++ _ = writeS s by rw [List.take_length]; rfl)⟩
end
end Go.Proofs.YtboigjfgpppeaaaGreatDoor
namespace Go.Proofs.YtboigjfgpppeaaaGreatDoor
open Go Go.HL Go.Proofs Go.Wx Go.Rd Go.RowKit
section
set_option maxRecDepth 100000
end
end Go.Proofs.YtboigjfgpppeaaaGreatDoor
namespace Go.Wx
open Go Go.HL
variable [Lvl]
theorem CheckS.reports {s : Season} (c : CheckS s) {rs : List Seen} (h5 : rs.length ≤ 5) (h : ∀ r ∈ rs, checkSeenM s r = 0) : CheckS { s with reports := rs } :=
 ⟨c.w1, c.w6, c.dl, c.h, c.d, c.j3, c.j, h5, fun r hr => checkSeen_iff.2 (checkSeen_iff.1 (h r hr))⟩
end Go.Wx
namespace Go.Wx
open Go Go.HL
variable [Lvl]
theorem mem_le_last {m : Nat} {z : Int} (h : z ∈ listM m) : z ≤ (listM m).getLastD 0 := by
 obtain ⟨i, rfl, hi, hb⟩ := kU h
 have h1 := last_le (m:=m) (m':=2 ^ i) (fun w' hw' hb' => by
  rw [Nat.testBit_two_pow] at hb'
  have : i = w' := by simpa using hb'
  subst this
  exact ⟨i, Nat.le_refl _, hi, hb⟩)
 have h2 : listM (2 ^ i) ≠ [] := List.ne_nil_of_mem (mem_listN.2 ⟨i, rfl, hi, by rw [Nat.testBit_two_pow]; simp⟩)
 have h3 := h1 h2
 have h4 : (listM (2 ^ i)).getLastD 0 = (i : Int) := by
  have hl : (listM (2 ^ i)).getLastD 0 ∈ listM (2 ^ i) := by
   rw [List.getLastD_eq_getLast?, List.getLast?_eq_some_getLast h2]
   exact List.getLast_mem h2
  obtain ⟨k, e, _, hk⟩ := kU hl
  rw [Nat.testBit_two_pow] at hk
  have : i = k := by simpa using hk
  rw [e, this]
 omega
theorem head_le_mem {m : Nat} {z : Int} (h : z ∈ listM m) : (listM m).headD 0 ≤ z := by
 have hp : (listM m).Pairwise (· < ·) := listN_pair m 7
 cases e : listM m with
 | nil => rw [e] at h; cases h
 | cons y l =>
  rw [e] at h hp
  rw [List.headD_cons]
  rcases List.mem_cons.1 h with rfl | h
  ·exact Int.le_refl _
  have := (List.pairwise_cons.1 hp).1 _ h; omega
section
variable {weeks joints reports : Nat} {s : Season} {ht dt fs : List Int} (T : SeasonT weeks joints reports s ht dt fs) (hw : weeks ≤ 6) (h3 : joints ≤ 3)
include T hw h3
end
end Go.Wx
namespace Go.Wx
open Go Go.HL
variable [Lvl]
structure Better (x s : Season) : Prop where
 js : x.joints = s.joints
 hl : x.heats.length = s.heats.length
 dl : x.damps.length = s.damps.length
 hs : ∀ (i : Nat) q r, x.heats[i]? = some q → s.heats[i]? = some r → r.mn ≤ q.mn ∧ q.mx ≤ r.mx
 ds : ∀ (i : Nat) q r, x.damps[i]? = some q → s.damps[i]? = some r → r.mn ≤ q.mn ∧ q.mx ≤ r.mx
 rs : ∀ r ∈ s.reports, r ∈ x.reports
section
variable {x s : Season} (B : Better x s) (cx : CheckS x) (cs : CheckS s)
include B cx cs
theorem Better.sky {n : Int} {y : Sky} (h : y ∈ allSkies x n) : y ∈ allSkies s n := by
 have l1 : (weatherM x n).length = s.heats.length := by
  unfold weatherM
  split
  ·exact B.hl
  rw [cx.dl]; exact B.hl
 have l2 : (weatherM s n).length = s.heats.length := by
  unfold weatherM
  split
  ·rfl
  exact cs.dl
 have h6 := cs.w6
 rw [mem_allSkies (by omega)] at h ⊢
 rw [l1] at h
 rw [l2]
 refine ⟨fun i r hr => ?_, h.2⟩
 have hi := (List.getElem?_eq_some_iff.1 hr).1
 have hq : (weatherM x n)[i]? = some ((weatherM x n)[i]'(by omega)) := List.getElem?_eq_getElem (by omega)
 have h1 := h.1 i _ hq
 have h2 : r.mn ≤ ((weatherM x n)[i]'(by omega)).mn ∧ ((weatherM x n)[i]'(by omega)).mx ≤ r.mx := by
  generalize hz : (weatherM x n)[i]'(by omega) = z at hq
  unfold weatherM at hr hq
  by_cases hn : n = 1
  ·rw [if_pos hn] at hr hq; exact B.hs i _ r hq hr
  rw [if_neg hn] at hr hq; exact B.ds i _ r hq hr
 omega
theorem Better.told {i w : Nat} (h : (toldW x i).testBit w = true) : (toldW s i).testBit w = true := by
 by_cases hw : w < 64
 ·rw [toldW_bit x cx.w6 (fun r hr => (checkSeen_iff.1 (cx.r r hr)).2.2.1) i w hw, Bool.and_eq_true, List.all_eq_true] at h
  rw [toldW_bit s cs.w6 (fun r hr => (checkSeen_iff.1 (cs.r r hr)).2.2.1) i w hw, Bool.and_eq_true, List.all_eq_true, ← B.hl]
  exact ⟨h.1, fun r hr => h.2 r (B.rs r hr)⟩
 have h2 : toldW x i < 2 ^ w := Nat.lt_of_lt_of_le (toldW_lt x cx.w6 i) (Nat.pow_le_pow_right (by omega) (by omega))
 rw [Nat.testBit_lt_two_pow h2] at h
 cases h
theorem Better.surv {n : Int} {y : Sky} {i : Nat} {z : Fl} (h : z ∈ Wx.surv x n y i) : z ∈ Wx.surv s n y i := by
 unfold Wx.surv at h ⊢
 rw [B.js] at h
 cases hj : s.joints[i]? with
 | none => rw [hj] at h; cases h
 | some j =>
  rw [hj] at h
  simp only at h ⊢
  split at h
  ·rename_i hk
   rw [if_pos hk]
   rw [List.mem_filter] at h ⊢
   rw [B.hl] at h
   exact ⟨h.1, B.told cx cs h.2⟩
  cases h
theorem Better.ok {n : Int} {y : Sky} (h : okM x n y = true) : okM s n y = true := by
 rw [okM_iff] at h ⊢
 intro i j hj hk e
 have h1 := h i j (by rw [B.js]; exact hj) hk
 cases hs : Wx.surv x n y i with
 | nil => exact h1 hs
 | cons z l =>
  have := B.surv cx cs (n:=n) (y:=y) (i:=i) (z:=z) (by rw [hs]; exact List.mem_cons_self ..)
  rw [e] at this
  cases this
theorem Better.kind (i : Nat) : kindAt x i = kindAt s i := by unfold kindAt; rw [B.js]
theorem Better.fate {n : Int} {y : Sky} {i w : Nat} (h : (fateM x n y i).testBit w = true) : (fateM s n y i).testBit w = true := by
 unfold fateM at h ⊢
 rw [maskM_bit] at h ⊢
 obtain ⟨z, hz, e⟩ := h
 exact ⟨z, B.surv cx cs hz, e⟩
theorem Better.fates {F' : Fate} (h : F' ∈ allFates x) : ∃ F, F ∈ allFates s ∧ ∀ i, i < 3 → ∀ w, (F'.at i).testBit w = true → (F.at i).testBit w = true := by
 obtain ⟨a, ha, b, hb, rfl⟩ := vY.1 h
 obtain ⟨u, hu⟩ := List.mem_map.1 ha
 obtain ⟨v, hv⟩ := List.mem_map.1 hb
 obtain ⟨hu1, rfl⟩ := hu
 obtain ⟨hv1, rfl⟩ := hv
 obtain ⟨u1, u2⟩ := mem_okAll.1 hu1
 obtain ⟨v1, v2⟩ := mem_okAll.1 hv1
 refine ⟨joinF (fateOf s 1 u) (fateOf s 2 v), vY.2 ⟨_, List.mem_map.2 ⟨u, mem_okAll.2 ⟨B.sky cx cs u1, B.ok cx cs u2⟩, rfl⟩, _, List.mem_map.2 ⟨v, mem_okAll.2 ⟨B.sky cx cs v1, B.ok cx cs v2⟩, rfl⟩, rfl⟩, fun i hi w hb => ?_⟩
 rw [joinF_at, Fate.of_at _ _ _ _ hi, Fate.of_at _ _ _ _ hi, Nat.testBit_or, Bool.or_eq_true] at hb ⊢
 exact hb.imp (B.fate cx cs) (B.fate cx cs)
end
theorem list_sub {m m' : Nat} (h : ∀ i, m'.testBit i = true → m.testBit i = true) {z : Int} (hz : z ∈ listM m') : z ∈ listM m := by
 obtain ⟨i, rfl, hi, hb⟩ := kU hz
 exact mem_listN.2 ⟨i, rfl, hi, h i hb⟩
section
variable {x s : Season} (B : Better x s) (cx : CheckS x) (cs : CheckS s)
include B cx cs
theorem Better.first (hx : mayM x = true) {j : Nat} : ((allFates x).any (isF x j) = true → (allFates s).any (isF s j) = true) ∧ ((allFates x).any (noF x j) = true → (allFates s).any (noF s j) = true) := by
 have hjl : x.joints.length = s.joints.length := by rw [B.js]
 have j3 := cs.j3
 have SV := yR cx.ok
 have ends : ∀ (F' F : Fate), F' ∈ allFates x → (∀ i, i < 3 → ∀ w, (F'.at i).testBit w = true → (F.at i).testBit w = true) → ∀ n, n ≤ s.joints.length → latP x F' j n ≤ latP s F j n ∧ soonP s F j n ≤ soonP x F' j n := by
  intro F' F hF' hsub n
  induction n with
  | zero => intro _; rw [latP, latP, soonP, soonP, B.hl]; exact ⟨Int.le_refl _, Int.le_refl _⟩
  | succ n ih =>
   intro hn
   obtain ⟨h1, h2⟩ := ih (by omega)
   have hne : listM (F'.at n) ≠ [] := listM_ne (allFates_ne SV hF' (by omega)) ((allFates_b cx.w6 hF').at n)
   have hs := hsub n (by omega)
   have e1 : (listM (F'.at n)).getLastD 0 ∈ listM (F'.at n) := by rw [List.getLastD_eq_getLast?, List.getLast?_eq_some_getLast hne]; exact List.getLast_mem hne
   have e2 : (listM (F'.at n)).headD 0 ∈ listM (F'.at n) := by cases e : listM (F'.at n) with | nil => exact absurd e hne | cons a l => exact List.mem_cons_self ..
   have g1 := mem_le_last (list_sub hs e1)
   have g2 := head_le_mem (list_sub hs e2)
   rw [latP, latP, soonP, soonP]
   split
   ·exact ⟨h1, h2⟩
   omega
 constructor
 ·intro h
  obtain ⟨F', hF', h⟩ := List.any_eq_true.1 h
  obtain ⟨F, hF, hsub⟩ := B.fates cx cs hF'
  refine List.any_eq_true.2 ⟨F, hF, ?_⟩
  unfold isF at h ⊢
  obtain ⟨w, hw, h⟩ := List.any_eq_true.1 h
  by_cases hj : j < 3
  ·refine List.any_eq_true.2 ⟨w, list_sub (hsub j hj) hw, ?_⟩
   unfold isW at h ⊢
   rw [Bool.and_eq_true, decide_eq_true_eq, decide_eq_true_eq] at h ⊢
   have := (ends F' F hF' hsub s.joints.length (Nat.le_refl _)).1
   rw [hjl, B.hl] at h
   omega
  have h2 : F'.at j = F'.at 2 ∧ F.at j = F.at 2 := by
   match j, hj with
   | j + 3, _ => exact ⟨rfl, rfl⟩
   | 0, h => exact absurd (by omega) h
   | 1, h => exact absurd (by omega) h
   | 2, h => exact absurd (by omega) h
  rw [h2.1] at hw
  rw [h2.2]
  refine List.any_eq_true.2 ⟨w, list_sub (hsub 2 (by omega)) hw, ?_⟩
  unfold isW at h ⊢
  rw [Bool.and_eq_true, decide_eq_true_eq, decide_eq_true_eq] at h ⊢
  have := (ends F' F hF' hsub s.joints.length (Nat.le_refl _)).1
  rw [hjl, B.hl] at h
  omega
 intro h
 obtain ⟨F', hF', h⟩ := List.any_eq_true.1 h
 obtain ⟨F, hF, hsub⟩ := B.fates cx cs hF'
 refine List.any_eq_true.2 ⟨F, hF, ?_⟩
 unfold noF at h ⊢
 obtain ⟨w, hw, h⟩ := List.any_eq_true.1 h
 have hmem : w ∈ listM (F.at j) := by
  by_cases hj : j < 3
  ·exact list_sub (hsub j hj) hw
  have h2 : F'.at j = F'.at 2 ∧ F.at j = F.at 2 := by
   match j, hj with
   | j + 3, _ => exact ⟨rfl, rfl⟩
   | 0, h => exact absurd (by omega) h
   | 1, h => exact absurd (by omega) h
   | 2, h => exact absurd (by omega) h
  rw [h2.1] at hw
  rw [h2.2]
  exact list_sub (hsub 2 (by omega)) hw
 refine List.any_eq_true.2 ⟨w, hmem, ?_⟩
 unfold noW at h ⊢
 rw [Bool.or_eq_true, decide_eq_true_eq, decide_eq_true_eq] at h ⊢
 have := (ends F' F hF' hsub s.joints.length (Nat.le_refl _)).2
 rw [hjl, B.hl] at h
 omega
end
end Go.Wx
namespace Go.Wx
open Go Go.HL
variable [Lvl]
def NarrowL (ts : List Int) (rs qs : List Rg) : Prop := qs.length = rs.length ∧ ∀ (k : Nat) q r t, qs[k]? = some q → rs[k]? = some r → ts[k]? = some t → r.mn ≤ q.mn ∧ q.mn ≤ t ∧ t ≤ q.mx ∧ q.mx ≤ r.mx
theorem NarrowL.set {ts : List Int} {rs qs : List Rg} (n : NarrowL ts rs qs) {i : Nat} {r q : Rg} {t : Int} (hr : rs[i]? = some r) (ht : ts[i]? = some t) (h : r.mn ≤ q.mn ∧ q.mn ≤ t ∧ t ≤ q.mx ∧ q.mx ≤ r.mx) : NarrowL ts rs (qs.set i q) := by
 refine ⟨by rw [List.length_set]; exact n.1, fun k q' r' t' h1 h2 h3 => ?_⟩
 rw [List.getElem?_set] at h1
 by_cases hk : i = k
 ·subst hk
  rw [if_pos rfl] at h1
  split at h1
  ·cases h1
   rw [hr] at h2
   rw [ht] at h3
   cases h2
   cases h3
   exact h
  cases h1
 rw [if_neg hk] at h1
 exact n.2 k q' r' t' h1 h2 h3
end Go.Wx
namespace Go.Wx
open Go Go.HL
variable [Lvl]
def flR (y : Fl) : List Value := [.int .i64 y.week, .bool (y.causes.testBit 0), .bool (y.causes.testBit 1), .bool (y.causes.testBit 2)]
section
variable {x : List Int} (h6 : x.length ≤ 6) {h c : Int} {many life : Nat} (hm : 1 ≤ many)
include h6 hm
end
end Go.Wx
namespace Go.Proofs.YtboigjfgpppeaaaGreatDoor
open Go Go.HL Go.Proofs Go.Wx
variable [Lvl]
set_option maxRecDepth 100000
end Go.Proofs.YtboigjfgpppeaaaGreatDoor
namespace Go.Proofs.YtboigjfgpppeaaaGreatDoor
open Go Go.HL Go.Proofs Go.Wx
variable [Lvl]
set_option maxRecDepth 100000
end Go.Proofs.YtboigjfgpppeaaaGreatDoor
namespace Go.Proofs.YtboigjfgpppeaaaGreatDoor
open Go Go.HL Go.Proofs Go.Wx
variable [Lvl]
set_option maxRecDepth 100000
end Go.Proofs.YtboigjfgpppeaaaGreatDoor
namespace Go.Proofs.YtboigjfgpppeaaaGreatDoor
open Go Go.HL Go.Proofs Go.Wx
variable [Lvl]
set_option maxRecDepth 100000
end Go.Proofs.YtboigjfgpppeaaaGreatDoor
namespace Go.Proofs.YtboigjfgpppeaaaGreatDoor
open Go Go.HL Go.Proofs Go.Wx
variable [Lvl]
set_option maxRecDepth 100000
def wthM (rs : List Rg) : Nat → List Int → List (List Int)
 | 0, x => [x]
 | m + 1, x => (rangeI (rs.getD x.length default).mn ((rs.getD x.length default).mx + 1)).flatMap fun t => wthM rs m (x ++ [t])
end Go.Proofs.YtboigjfgpppeaaaGreatDoor
namespace Go.Proofs.YtboigjfgpppeaaaGreatDoor
open Go Go.HL Go.Proofs Go.Wx
variable [Lvl]
set_option maxRecDepth 100000
theorem LLv.app {h : AH} {ls ls' : List (List Int)} {vs vs' : List Value} (x : LLv h ls vs) (y : LLv h ls' vs') : LLv h (ls ++ ls') (vs ++ vs') := by
 refine ⟨by simp [x.1, y.1], fun i l v a b => ?_⟩
 by_cases hi : i < ls.length
 ·rw [List.getElem?_append_left hi] at a
  rw [List.getElem?_append_left (by rw [x.1]; exact hi)] at b
  exact x.2 i l v a b
 rw [List.getElem?_append_right (by omega)] at a
 rw [List.getElem?_append_right (by rw [x.1]; omega), x.1] at b
 exact y.2 _ l v a b
end Go.Proofs.YtboigjfgpppeaaaGreatDoor
namespace Go.Proofs.YtboigjfgpppeaaaGreatDoor
open Go Go.HL Go.Proofs Go.Wx
variable [Lvl]
def allW (s : Season) (n : Int) : List (List Int) := wthM (weatherM s n) (weatherM s n).length []
def rSk (s : Season) (n : Int) : List (List Int) := (allW s n).filter fun x => okM s n (skyOf x)
def recF (s : Season) (n : Int) (x : List Int) : List (List Fl) := (List.range s.joints.length).map fun i => surv s n (skyOf x) i
def RLv {α β : Type} (R : AH → α → β → Prop) (h : AH) (ls : List α) (vs : List β) : Prop := vs.length = ls.length ∧ ∀ (i : Nat) l v, ls[i]? = some l → vs[i]? = some v → R h l v
section
variable {α β : Type} {R : AH → α → β → Prop}
theorem RLv.nil {h : AH} : RLv R h [] [] := ⟨rfl, fun i l v a _ => by simp at a⟩
theorem RLv.ext (he : ∀ h h' l v, Ext h h' → R h l v → R h' l v) {h h' : AH} {ls : List α} {vs : List β} (x : RLv R h ls vs) (E : Ext h h') : RLv R h' ls vs := ⟨x.1, fun i l v a b => he _ _ _ _ E (x.2 i l v a b)⟩
theorem RLv.snoc {h : AH} {ls : List α} {vs : List β} (x : RLv R h ls vs) {l : α} {v : β} (s : R h l v) : RLv R h (ls ++ [l]) (vs ++ [v]) := by
 refine ⟨by simp [x.1], fun i l' v' a b => ?_⟩
 by_cases hi : i < ls.length
 ·rw [List.getElem?_append_left hi] at a
  rw [List.getElem?_append_left (by rw [x.1]; exact hi)] at b
  exact x.2 i l' v' a b
 have h1 := (List.getElem?_eq_some_iff.1 a).1
 have hie : i = ls.length := by simp at h1; omega
 subst hie
 rw [List.getElem?_append_right (Nat.le_refl _), Nat.sub_self] at a
 rw [List.getElem?_append_right (by rw [x.1]; exact Nat.le_refl _), x.1, Nat.sub_self] at b
 simp at a b
 subst a b
 exact s
theorem RLv.at {h : AH} {ls : List α} {vs : List β} (x : RLv R h ls vs) {i : Nat} (hi : i < ls.length) : ∃ hv : i < vs.length, R h ls[i] vs[i] :=
 ⟨by rw [x.1]; exact hi, x.2 i _ _ (List.getElem?_eq_getElem hi) (List.getElem?_eq_getElem (by rw [x.1]; exact hi))⟩
end
theorem flx {h h' : AH} {ls : List (List Fl)} {vs : List Value} (x : RLv (fun h l v => SlR h 4 flR l v) h ls vs) (E : Ext h h') : RLv (fun h l v => SlR h 4 flR l v) h' ls vs := RLv.ext (R:=fun h l v => SlR h 4 flR l v) (fun _ _ _ _ E s => SlR.ext s E) x E
def FLR (h : AH) (ls : List (List Fl)) (v : Value) : Prop := ∃ A c vs, v = .slice A ls.length c ∧ Row h 1 fnC A vs ∧ RLv (fun h l v => SlR h 4 flR l v) h ls vs
theorem FLR.ext {h h' : AH} {ls : List (List Fl)} {v : Value} (x : FLR h ls v) (E : Ext h h') : FLR h' ls v := by
 obtain ⟨A, c, vs, e, r, l⟩ := x
 exact ⟨A, c, vs, e, r.ext E, flx l E⟩
def SkP (s : Season) (n : Int) (h : AH) (x : List Int) (p : Value × Value) : Prop := SlR h 1 intC x p.1 ∧ FLR h (recF s n x) p.2
theorem SkP.ext {s : Season} {n : Int} {h h' : AH} {x : List Int} {p : Value × Value} (k : SkP s n h x p) (E : Ext h h') : SkP s n h' x p := ⟨k.1.ext E, k.2.ext E⟩
theorem skx {s : Season} {n : Int} {h h' : AH} {ls : List (List Int)} {ps : List (Value × Value)} (x : RLv (SkP s n) h ls ps) (E : Ext h h') : RLv (SkP s n) h' ls ps := RLv.ext (R:=SkP s n) (fun _ _ _ _ E s => SkP.ext s E) x E
def prC (p : Value × Value) : List Value := [p.1, p.2]
def SKR (s : Season) (n : Int) (h : AH) (l : List (List Int)) (v : Value) : Prop := ∃ A c ps, v = .slice A l.length c ∧ Row h 2 prC A ps ∧ RLv (SkP s n) h l ps
theorem SKR.ext {s : Season} {n : Int} {h h' : AH} {l : List (List Int)} {v : Value} (x : SKR s n h l v) (E : Ext h h') : SKR s n h' l v := by
 obtain ⟨A, c, ps, e, r, k⟩ := x
 exact ⟨A, c, ps, e, r.ext E, skx k E⟩
end Go.Proofs.YtboigjfgpppeaaaGreatDoor
namespace Go.Proofs.YtboigjfgpppeaaaGreatDoor
open Go Go.HL Go.Proofs Go.Wx
variable [Lvl]
set_option maxRecDepth 100000
end Go.Proofs.YtboigjfgpppeaaaGreatDoor
namespace Go.Proofs.YtboigjfgpppeaaaGreatDoor
open Go Go.HL Go.Proofs Go.Wx
variable [Lvl]
set_option maxRecDepth 100000
end Go.Proofs.YtboigjfgpppeaaaGreatDoor
namespace Go.Proofs.YtboigjfgpppeaaaGreatDoor
open Go Go.HL Go.Proofs Go.Wx
variable [Lvl]
end Go.Proofs.YtboigjfgpppeaaaGreatDoor
namespace Go.Proofs.YtboigjfgpppeaaaGreatDoor
open Go Go.HL Go.Proofs Go.Wx
variable [Lvl]
set_option maxRecDepth 100000
end Go.Proofs.YtboigjfgpppeaaaGreatDoor
namespace Go.Proofs.YtboigjfgpppeaaaGreatDoor
open Go Go.HL Go.Proofs Go.Wx
variable [Lvl]
set_option maxRecDepth 100000
end Go.Proofs.YtboigjfgpppeaaaGreatDoor
namespace Go.Proofs.YtboigjfgpppeaaaGreatDoor
open Go Go.HL Go.Proofs Go.Wx
variable [Lvl]
set_option maxRecDepth 100000
end Go.Proofs.YtboigjfgpppeaaaGreatDoor
namespace Go.Proofs.YtboigjfgpppeaaaGreatDoor
open Go Go.HL Go.Proofs Go.Wx
variable [Lvl]
set_option maxRecDepth 100000
end Go.Proofs.YtboigjfgpppeaaaGreatDoor
namespace Go.Proofs.YtboigjfgpppeaaaGreatDoor
open Go Go.HL Go.Proofs Go.Wx Go.RowKit
variable [Lvl]
set_option maxRecDepth 100000
end Go.Proofs.YtboigjfgpppeaaaGreatDoor
namespace Go.Proofs.YtboigjfgpppeaaaGreatDoor
open Go Go.HL Go.Proofs Go.Wx
variable [Lvl]
set_option maxRecDepth 100000
end Go.Proofs.YtboigjfgpppeaaaGreatDoor
namespace Go.Proofs.YtboigjfgpppeaaaGreatDoor
open Go Go.HL Go.Proofs Go.Wx
variable [Lvl]
set_option maxRecDepth 100000
end Go.Proofs.YtboigjfgpppeaaaGreatDoor
namespace Go.Proofs.YtboigjfgpppeaaaGreatDoor
open Go Go.HL Go.Proofs Go.Wx
variable [Lvl]
set_option maxRecDepth 100000
end Go.Proofs.YtboigjfgpppeaaaGreatDoor
namespace Go.Proofs.YtboigjfgpppeaaaGreatDoor
open Go Go.HL Go.Proofs Go.Wx
variable [Lvl]
section
variable {l : List Fl} (h0 : l ≠ []) (h6 : ∀ y ∈ l, y.week ≤ 6)
include h0 h6
end
def pF (s : Season) (x y : List Int) : Fate := joinF (fateOf s 1 (skyOf x)) (fateOf s 2 (skyOf y))
section
variable {s : Season} (SV : SeasonV s) {x y : List Int} (hx : x ∈ rSk s 1) (hy : y ∈ rSk s 2)
include SV
include hx hy
end
end Go.Proofs.YtboigjfgpppeaaaGreatDoor
namespace Go.Proofs.YtboigjfgpppeaaaGreatDoor
open Go Go.HL Go.Proofs Go.Wx
variable [Lvl]
set_option maxRecDepth 100000
end Go.Proofs.YtboigjfgpppeaaaGreatDoor
namespace Go.Proofs.YtboigjfgpppeaaaGreatDoor
open Go Go.HL Go.Proofs Go.Wx
variable [Lvl]
set_option maxRecDepth 100000
end Go.Proofs.YtboigjfgpppeaaaGreatDoor
namespace Go.Proofs.YtboigjfgpppeaaaGreatDoor
open Go Go.HL Go.Proofs Go.Wx
variable [Lvl]
set_option maxRecDepth 100000
end Go.Proofs.YtboigjfgpppeaaaGreatDoor
namespace Go.Proofs.YtboigjfgpppeaaaGreatDoor
open Go Go.HL Go.Proofs Go.Wx
variable [Lvl]
set_option maxRecDepth 100000
def gone (s : Season) (i k : Nat) : List Fate := (((rSk s 1).take i).flatMap fun x => (rSk s 2).map (pF s x)) ++ ((rSk s 2).take k).map (pF s ((rSk s 1).getD i []))
end Go.Proofs.YtboigjfgpppeaaaGreatDoor
namespace Go.Proofs.YtboigjfgpppeaaaGreatDoor
open Go Go.HL Go.Proofs Go.Wx Go.RowKit
variable [Lvl]
set_option maxRecDepth 100000
end Go.Proofs.YtboigjfgpppeaaaGreatDoor
namespace Go.Proofs.YtboigjfgpppeaaaGreatDoor
open Go Go.HL Go.Proofs Go.Wx Go.RowKit
variable [Lvl]
set_option maxRecDepth 100000
structure BetA where
 y : Nat
 xs : Season
 X0 : Option Addr
 X1 : Option Addr
 X2 : Option Addr
 X3 : Option Addr
 k0 : Nat
 k1 : Nat
 k2 : Nat
 k3 : Nat
end Go.Proofs.YtboigjfgpppeaaaGreatDoor
namespace Go.Proofs.YtboigjfgpppeaaaGreatDoor
open Go Go.HL Go.Proofs Go.Wx
variable [Lvl]
set_option maxRecDepth 100000
theorem many_ok (s : Season) (A0 A1 A2 A3 : Option Addr) (c0 c1 c2 c3 : Nat) (h : AH) :
  FnT Tryz.prog 5 #[seasonV A0 A1 A2 A3 c0 c1 c2 c3 s] h (fun v _ => ∃ b, v = .bool b ∧ (b = false → s.heats.length ≤ 20 ∧ s.damps.length ≤ 20 ∧ s.joints.length ≤ 20 ∧ s.reports.length ≤ 20)) := by
 refine qW Tryz.func5 rfl Tryz.ntmps5 rfl ?_
 refine qC (qA rfl ?_)
 refine zC (v:=.agg #[.slice _ _ _, .slice _ _ _, .slice _ _ _, .slice _ _ _]) (cs:=[_, _, _, _]) rfl rfl fun b1 hb1 => ?_
 refine qH [_] rfl ?_
 refine asB rfl ?_
 refine qC (qA rfl ?_)
 refine qB (qD rfl rfl rfl rfl 0 rfl) ?_
 refine qL 0 (v:=.slice _ _ _) rfl rfl rfl rfl ?_
 refine qB (wP rfl rfl) ?_
 refine pvB rfl ?_
 refine mvB rfl ?_
 rcases Bool.eq_false_or_eq_true (decide ((s.heats.length : Int) > 20)) with e1 | e1
 ·skip
  refine qI rfl e1 ?_
  refine qI rfl e1 ?_
  refine qI rfl e1 ?_
  refine qI rfl e1 ?_
  refine qB (wN rfl e1 (v:=.bool _) rfl) ?_
  refine mvB rfl ?_
  refine qI rfl rfl ?_
  refine qI rfl rfl ?_
  refine qI rfl rfl ?_
  refine qI rfl rfl ?_
  refine qB (wN rfl rfl (v:=.bool _) rfl) ?_
  refine mvB rfl ?_
  refine qI rfl rfl ?_
  refine qI rfl rfl ?_
  refine qI rfl rfl ?_
  refine qI rfl rfl ?_
  refine qB (wN rfl rfl (v:=.bool _) rfl) ?_
  refine asB rfl ?_
  refine qQ ?_
  refine qJ (vs:=[_]) Tryz.results5 ⟨qG rfl rfl, trivial⟩ fun V => ?_
  exact ⟨(qN V), true, rfl, fun h => by cases h⟩
 skip
 refine qF rfl e1 ?_
 refine qB (qD rfl rfl rfl rfl 1 rfl) ?_
 refine qF rfl e1 ?_
 refine qL 0 (v:=.slice _ _ _) rfl rfl rfl rfl ?_
 refine qF rfl e1 ?_
 refine qB (wP rfl rfl) ?_
 refine qF rfl e1 ?_
 refine pvB rfl ?_
 refine qB (wM rfl e1 (v:=.bool _) rfl) ?_
 refine mvB rfl ?_
 rcases Bool.eq_false_or_eq_true (decide ((s.damps.length : Int) > 20)) with e2 | e2
 ·skip
  refine qI rfl e2 ?_
  refine qI rfl e2 ?_
  refine qI rfl e2 ?_
  refine qI rfl e2 ?_
  refine qB (wN rfl e2 (v:=.bool _) rfl) ?_
  refine mvB rfl ?_
  refine qI rfl rfl ?_
  refine qI rfl rfl ?_
  refine qI rfl rfl ?_
  refine qI rfl rfl ?_
  refine qB (wN rfl rfl (v:=.bool _) rfl) ?_
  refine asB rfl ?_
  refine qQ ?_
  refine qJ (vs:=[_]) Tryz.results5 ⟨qG rfl rfl, trivial⟩ fun V => ?_
  exact ⟨(qN V), true, rfl, fun h => by cases h⟩
 skip
 refine qF rfl e2 ?_
 refine qB (qD rfl rfl rfl rfl 2 rfl) ?_
 refine qF rfl e2 ?_
 refine qL 0 (v:=.slice _ _ _) rfl rfl rfl rfl ?_
 refine qF rfl e2 ?_
 refine qB (wP rfl rfl) ?_
 refine qF rfl e2 ?_
 refine pvB rfl ?_
 refine qB (wM rfl e2 (v:=.bool _) rfl) ?_
 refine mvB rfl ?_
 rcases Bool.eq_false_or_eq_true (decide ((s.joints.length : Int) > 20)) with e3 | e3
 ·skip
  refine qI rfl e3 ?_
  refine qI rfl e3 ?_
  refine qI rfl e3 ?_
  refine qI rfl e3 ?_
  refine qB (wN rfl e3 (v:=.bool _) rfl) ?_
  refine asB rfl ?_
  refine qQ ?_
  refine qJ (vs:=[_]) Tryz.results5 ⟨qG rfl rfl, trivial⟩ fun V => ?_
  exact ⟨(qN V), true, rfl, fun h => by cases h⟩
 skip
 refine qF rfl e3 ?_
 refine qB (qD rfl rfl rfl rfl 3 rfl) ?_
 refine qF rfl e3 ?_
 refine qL 0 (v:=.slice _ _ _) rfl rfl rfl rfl ?_
 refine qF rfl e3 ?_
 refine qB (wP rfl rfl) ?_
 refine qF rfl e3 ?_
 refine pvB rfl ?_
 refine qB (wM rfl e3 (v:=.bool _) rfl) ?_
 refine asB rfl ?_
 refine qQ ?_
 refine qJ (vs:=[_]) Tryz.results5 ⟨qG rfl rfl, trivial⟩ fun V => ?_
 refine ⟨(qN V), decide ((s.reports.length : Int) > 20), rfl, fun e4 => ?_⟩
 have := of_decide_eq_false e1
 have := of_decide_eq_false e2
 have := of_decide_eq_false e3
 have := of_decide_eq_false e4
 omega
end Go.Proofs.YtboigjfgpppeaaaGreatDoor
namespace Go.Proofs.YtboigjfgpppeaaaGreatDoor
open Go Go.HL Go.Proofs Go.Wx Go.Rd Go.RowKit
section
variable [Lvl]
set_option maxRecDepth 100000
theorem tmod_gt (x : Int) {n : Int} (hn : 0 < n) : -n < x.tmod n := by
 by_cases h : 0 ≤ x
 ·have := Int.tmod_nonneg n h; omega
 obtain ⟨y, rfl⟩ : ∃ y, x = -y := ⟨-x, by omega⟩
 rw [Int.neg_tmod]
 have := Int.tmod_lt_of_pos y hn
 omega
def turnI (x n : Int) : Int := if n < 2 then 0 else (x.tmod n + n).tmod n
theorem turnI_bd (x n : Int) : 0 ≤ turnI x n ∧ (1 ≤ n → turnI x n < n) := by
 unfold turnI
 split
 ·omega
 rename_i h
 have h1 : -n < x.tmod n := tmod_gt x (by omega)
 have h2 : 0 ≤ x.tmod n + n := by omega
 exact ⟨Int.tmod_nonneg n h2, fun _ => Int.tmod_lt_of_pos _ (by omega)⟩
theorem Turn_ok (x n : Int) (hn : n ≤ 2 ^ 40) (h : AH) : FnT Tryz.prog 33 #[.int .i64 x, .int .i64 n] h (fun v _ => v = .int .i64 (turnI x n)) := by
 refine qW Tryz.func33 rfl Tryz.ntmps33 rfl ?_
 refine qC (qA rfl ?_)
 refine asI rfl ?_
 refine qC (qC (qA rfl ?_))
 refine mvI rfl ?_
 refine pvB rfl ?_
 refine qP rfl (fun ht => ?_) (fun ht => ?_)
 ·skip
  have ht' : n < 2 := of_decide_eq_true ht
  refine qC (qA rfl ?_)
  refine asI rfl ?_
  refine qQ ?_
  refine qJ (vs:=[_]) Tryz.results33 ⟨qG rfl rfl, trivial⟩ fun V => ?_
  exact ⟨(qN V), intE (by rw [turnI, if_pos ht'])⟩
 skip
 have ht' : ¬ n < 2 := of_decide_eq_false ht
 have h1 : -n < x.tmod n := tmod_gt x (by omega)
 have h2 : x.tmod n < n := Int.tmod_lt_of_pos _ (by omega)
 refine qM ?_
 refine qC (qA rfl ?_)
 refine mvI rfl ?_
 refine mvI rfl ?_
 refine qB (pv_remT rfl rfl (by omega)) ?_
 refine mvI rfl ?_
 refine qB (qO rfl (by omega)) ?_
 refine mvI rfl ?_
 refine qB (pv_remT rfl rfl (by omega)) ?_
 refine asI rfl ?_
 refine qQ ?_
 refine qJ (vs:=[_]) Tryz.results33 ⟨qG rfl rfl, trivial⟩ fun V => ?_
 exact ⟨(qN V), intE (by rw [turnI, if_neg ht'])⟩
theorem Harmed_ok (s : List UInt8) (at_ how : Int) (by_ : UInt8) (h : AH) (hs : s.length < 2 ^ 20) : FnT Tryz.prog 11 #[.string (bs s), .int .i64 at_, .int .i64 how, .int .u8 by_.toNat] h (fun v _ => ∃ s', v = .string (bs s') ∧ s'.length ≤ s.length + 1) := by
 refine qW Tryz.func11 rfl Tryz.ntmps11 rfl ?_
 refine qC (qA rfl ?_)
 refine asT rfl ?_
 refine qC (qC (qA rfl ?_))
 refine mvT rfl ?_
 refine qB (yE rfl rfl) ?_
 refine qP rfl (fun h0 => ?_) (fun h0 => ?_)
 ·skip
  refine qC (qA rfl ?_)
  refine mvT rfl ?_
  refine asT rfl ?_
  refine qQ ?_
  refine qJ (vs:=[_]) Tryz.results11 ⟨qG rfl rfl, trivial⟩ fun V => ?_
  exact ⟨(qN V), s, rfl, Nat.le_succ _⟩
 skip
 have h0' : 0 < s.length := by
  have : ¬ s = [] := of_decide_eq_false h0
  exact Nat.pos_of_ne_zero fun e => this (List.eq_nil_of_length_eq_zero e)
 have ht := turnI_bd at_ (s.length : Int)
 obtain ⟨j, hj⟩ : ∃ j : Nat, turnI at_ (s.length : Int) = (j : Int) := ⟨(turnI at_ (s.length : Int)).toNat, by omega⟩
 have hjl : j < s.length := by have := ht.2 (by omega); omega
 refine qM ?_
 refine qC (qA rfl ?_)
 refine mvI rfl ?_
 refine mvT rfl ?_
 refine qB (zA rfl rfl) ?_
 refine wI (caps:=[]) (vs:=[.int .i64 _, .int .i64 _]) rfl rfl rfl (Turn_ok at_ (s.length : Int) (by omega) h) ?_
 rintro v1 h1 E1 hv1
 rw [hj] at hv1
 subst hv1
 refine asI rfl ?_
 refine qC (qC (qA rfl ?_))
 refine mvI rfl ?_
 refine qT ?_
 refine qC (qA rfl ?_)
 refine pvB rfl ?_
 refine asB rfl ?_
 refine qP rfl (fun q0 => ?_) (fun q0 => ?_)
 ·skip
  refine qC ?_
  refine zL [] rfl rfl rfl ?_
  refine qE (i:=0) rfl (by decide +kernel) (qK (v:=.string _) rfl) ?_
  refine qE (i:=1) rfl (by decide +kernel) (qK (v:=.int .i64 _) rfl) ?_
  refine qE (i:=2) rfl (by decide +kernel) (yA 0 j rfl rfl (.inl ⟨rfl, rfl⟩) (.inr ⟨_, _, rfl, rfl⟩) (by omega) (by omega)) ?_
  refine qE (i:=3) rfl (by decide +kernel) (qK (v:=.int .u8 _) rfl) ?_
  refine qE (i:=7) rfl (by decide +kernel) (qK (v:=.string _) rfl) ?_
  refine qE (i:=8) rfl (by decide +kernel) (qK (v:=.int .i64 _) rfl) ?_
  refine qE (i:=9) rfl (by decide +kernel) (qO rfl (by omega)) ?_
  refine qE (i:=10) rfl (by decide +kernel) (yA (j + 1) s.length rfl rfl (.inr ⟨_, _, rfl, by push_cast; rfl⟩) (.inl ⟨rfl, rfl⟩) (by omega) (Nat.le_refl _)) ?_
  refine wU (i:=4) rfl (by decide +kernel) (by decide +kernel) ?_
  refine wG (zc:=[_]) (vs:=[(0, .int .u8 _)]) (cs:=[_]) rfl rfl rfl rfl rfl rfl rfl fun b24 hb24 => ?_
  refine wJ [_] rfl ?_
  refine wU (i:=5) rfl (by decide +kernel) (by decide +kernel) ?_
  refine op_b2s [by_] rfl rfl (fun V => rdP V (i:=0) rfl) rfl rfl rfl ?_
  refine qE (i:=6) rfl (by decide +kernel) (zT rfl rfl (by rw [List.length_drop, List.length_take]; show _ + 1 < _; omega)) ?_
  refine qE (i:=11) rfl (by decide +kernel) (zT rfl rfl (by rw [List.length_append, List.length_drop, List.length_take, List.length_drop, List.length_take]; show _ + 1 + _ < _; omega)) ?_
  refine qE (i:=12) rfl (by decide +kernel) (wA (v:=.string _) rfl) ?_
  refine zB rfl ?_
  refine qQ ?_
  refine qJ (vs:=[_]) Tryz.results11 ⟨qG rfl rfl, trivial⟩ fun V => ?_
  exact ⟨(kX E1 (qN V)), _, rfl, by simp only [List.length_append, List.length_drop, List.length_take, List.length_cons, List.length_nil]; omega⟩
 skip
 refine qC (qA rfl ?_)
 refine pvB rfl ?_
 refine asB rfl ?_
 refine qP rfl (fun q1 => ?_) (fun q1 => ?_)
 ·skip
  refine qC ?_
  refine zL [] rfl rfl rfl ?_
  refine qE (i:=0) rfl (by decide +kernel) (qK (v:=.string _) rfl) ?_
  refine qE (i:=1) rfl (by decide +kernel) (qK (v:=.int .i64 _) rfl) ?_
  refine qE (i:=2) rfl (by decide +kernel) (yA 0 j rfl rfl (.inl ⟨rfl, rfl⟩) (.inr ⟨_, _, rfl, rfl⟩) (by omega) (by omega)) ?_
  refine qE (i:=3) rfl (by decide +kernel) (qK (v:=.string _) rfl) ?_
  refine qE (i:=4) rfl (by decide +kernel) (qK (v:=.int .i64 _) rfl) ?_
  refine qE (i:=5) rfl (by decide +kernel) (qO rfl (by omega)) ?_
  refine qE (i:=6) rfl (by decide +kernel) (yA (j + 1) s.length rfl rfl (.inr ⟨_, _, rfl, by push_cast; rfl⟩) (.inl ⟨rfl, rfl⟩) (by omega) (Nat.le_refl _)) ?_
  refine qE (i:=7) rfl (by decide +kernel) (zT rfl rfl (by rw [List.length_drop, List.length_take, List.length_drop, List.length_take]; omega)) ?_
  refine qE (i:=8) rfl (by decide +kernel) (wA (v:=.string _) rfl) ?_
  refine zB rfl ?_
  refine qQ ?_
  refine qJ (vs:=[_]) Tryz.results11 ⟨qG rfl rfl, trivial⟩ fun V => ?_
  exact ⟨(kX E1 (qN V)), _, rfl, by simp only [List.length_append, List.length_drop, List.length_take, List.length_cons, List.length_nil]; omega⟩
 skip
 refine qM ?_
 refine qC ?_
 refine zL [] rfl rfl rfl ?_
 refine qE (i:=0) rfl (by decide +kernel) (qK (v:=.string _) rfl) ?_
 refine qE (i:=1) rfl (by decide +kernel) (qK (v:=.int .i64 _) rfl) ?_
 refine qE (i:=2) rfl (by decide +kernel) (yA 0 j rfl rfl (.inl ⟨rfl, rfl⟩) (.inr ⟨_, _, rfl, rfl⟩) (by omega) (by omega)) ?_
 refine qE (i:=3) rfl (by decide +kernel) (qK (v:=.int .u8 _) rfl) ?_
 refine qE (i:=7) rfl (by decide +kernel) (qK (v:=.string _) rfl) ?_
 refine qE (i:=8) rfl (by decide +kernel) (qK (v:=.int .i64 _) rfl) ?_
 refine qE (i:=9) rfl (by decide +kernel) (yA j s.length rfl rfl (.inr ⟨_, _, rfl, rfl⟩) (.inl ⟨rfl, rfl⟩) (by omega) (Nat.le_refl _)) ?_
 refine wU (i:=4) rfl (by decide +kernel) (by decide +kernel) ?_
 refine wG (zc:=[_]) (vs:=[(0, .int .u8 _)]) (cs:=[_]) rfl rfl rfl rfl rfl rfl rfl fun b46 hb46 => ?_
 refine wJ [_] rfl ?_
 refine wU (i:=5) rfl (by decide +kernel) (by decide +kernel) ?_
 refine op_b2s [by_] rfl rfl (fun V => rdP V (i:=0) rfl) rfl rfl rfl ?_
 refine qE (i:=6) rfl (by decide +kernel) (zT rfl rfl (by rw [List.length_drop, List.length_take]; show _ + 1 < _; omega)) ?_
 refine qE (i:=10) rfl (by decide +kernel) (zT rfl rfl (by rw [List.length_append, List.length_drop, List.length_take, List.length_drop, List.length_take]; show _ + 1 + _ < _; omega)) ?_
 refine qE (i:=11) rfl (by decide +kernel) (wA (v:=.string _) rfl) ?_
 refine zB rfl ?_
 refine qQ ?_
 refine qJ (vs:=[_]) Tryz.results11 ⟨qG rfl rfl, trivial⟩ fun V => ?_
 exact ⟨(kX E1 (qN V)), _, rfl, by simp only [List.length_append, List.length_drop, List.length_take, List.length_cons, List.length_nil]; omega⟩
theorem readS_sml {t : List UInt8} {s : Season} {row e : Int} (h : readS t = (s, row, e)) : Small s := by
 rw [readS_parts] at h
 split at h
 ·cases h; exact ⟨by decide, by decide, by decide, by decide⟩
 split at h
 ·cases h; exact ⟨by decide, by decide, by decide, by decide⟩
 split at h
 ·cases h; exact ⟨by decide, by decide, by decide, by decide⟩
 rename_i h2
 cases h
 obtain ⟨_, y1, y2, y3, y4⟩ := checkM_num (by simpa using h2 : checkM (seasN t) = 0)
 exact ⟨by omega, by omega, by omega, by omega⟩
def txtS (s : Season) : List UInt8 := if checkM s = 0 then writeS s else []
theorem writeSV_txt (s : Season) : writeSV s = .tuple #[.string (bs (txtS s)), .int .i64 (checkM s)] := rfl
theorem txtS_len (s : Season) : (txtS s).length ≤ 500 := by
 unfold txtS
 split
 ·rename_i h
  obtain ⟨_, _, y2, y3, y4⟩ := checkM_num h
  exact Nat.le_trans (writeS_len y2 y3 y4) (by decide)
 exact Nat.zero_le _
def seasCl (A0 A1 A2 A3 : Option Addr) (c0 c1 c2 c3 : Nat) (s : Season) : List Value := [.slice A0 s.heats.length c0, .slice A1 s.damps.length c1, .slice A2 s.joints.length c2, .slice A3 s.reports.length c3]
end
section
set_option maxRecDepth 100000
set_option maxHeartbeats 8000000 in
theorem texts_calls (w : World) (s1 : Season) (A0 A1 A2 A3 : Option Addr) (c0 c1 c2 c3 : Nat) (RM0 : SeasonR (absH w.heap) A0 A1 A2 A3 s1) (t : List UInt8) (l : List Int) (hl : l.length < 2 ^ 63) (A : Option Addr) (c : Nat) (R : Row (absH w.heap) 1 intC A l) (at_ how : Int) (by_ : UInt8) (hP : Pow (absH w.heap)) (hE : Errs (absH w.heap)) :
  Calls Tryz.prog 3 #[seasonV A0 A1 A2 A3 c0 c1 c2 c3 s1, .string (bs t), .slice A l.length c, .int .i64 at_, .int .i64 how, .int .u8 by_.toNat] w (fun e w' => e = .returned (.bool true) ∧ Below w.heap.size w w') := by
 letI : Lvl := ⟨false, none, none⟩
 refine calls_body Tryz.func3 rfl Tryz.ntmps3 rfl Tryz.results3 rfl fun h hh => ?_
 rw [← hh] at RM0 R hP hE
 refine qC (qA rfl ?_)
 refine zC (v:=.agg #[.slice _ _ _, .slice _ _ _, .slice _ _ _, .slice _ _ _]) (cs:=[_, _, _, _]) rfl rfl fun b6 hb6 => ?_
 refine qH [_] rfl ?_
 refine asB rfl ?_
 refine qC ?_
 refine zU [29, 30, 31, 32, 33, 34, 35, 36, 37, 38, 39, 40] 1 (α:=Bool) (fun q => [(40, .bool q)]) (fun q L => L) (fun q h_q => q = false → (s1.heats.length ≤ 20 ∧ s1.damps.length ≤ 20 ∧ s1.joints.length ≤ 20 ∧ s1.reports.length ≤ 20)) ?_ ?_
 ·skip
  refine qA rfl ?_
  refine qZ 0 (vs:=[.slice _ _ _, .slice _ _ _, .slice _ _ _, .slice _ _ _]) rfl rfl rfl rfl rfl ?_
  refine wI (caps:=[]) (vs:=[.agg #[.slice _ _ _, .slice _ _ _, .slice _ _ _, .slice _ _ _]]) rfl rfl rfl (many_ok s1 A0 A1 A2 A3 c0 c1 c2 c3 h) ?_
  rintro _ g0 G0 ⟨bb, rfl, hbb⟩
  refine mvB rfl ?_
  rcases Bool.eq_false_or_eq_true bb with hL | hL
  ·skip
   refine qI rfl hL ?_
   refine qI rfl hL ?_
   refine qI rfl hL ?_
   refine qI rfl hL ?_
   refine zG rfl ?_
   refine zG rfl ?_
   refine zG rfl ?_
   refine qI rfl hL ?_
   refine qB (wN rfl hL (v:=.bool _) rfl) ?_
   refine ⟨true, ⟨rfl, trivial⟩, rfl, rfl, G0, fun h3 E3 => (fun e => nomatch e), ?_⟩
   repeat (first | exact wQ _ _ | exact qV _ _ _ | refine qX (by decide) ?_ | refine qU rfl ?_ | refine qY rfl ?_)
  skip
  rcases Bool.eq_false_or_eq_true (decide ((t.length : Int) > 400)) with h3 | h3
  ·skip
   refine qF rfl hL ?_
   refine mvT rfl ?_
   refine qF rfl hL ?_
   refine qB (zA rfl rfl) ?_
   refine qF rfl hL ?_
   refine pvB rfl ?_
   refine qF rfl hL ?_
   refine mvB rfl ?_
   refine qF rfl h3 ?_
   refine mvT rfl ?_
   refine qF rfl h3 ?_
   refine qB (zA rfl rfl) ?_
   refine qF rfl h3 ?_
   refine pvB rfl ?_
   refine qF rfl hL ?_
   refine qB (wN rfl h3 (v:=.bool _) rfl) ?_
   refine qB (wM rfl hL (v:=.bool _) rfl) ?_
   refine ⟨_, ⟨rfl, trivial⟩, rfl, rfl, G0, fun h3 E3 => (fun _ => hbb hL), ?_⟩
   repeat (first | exact wQ _ _ | exact qV _ _ _ | refine qX (by decide) ?_ | refine qU rfl ?_ | refine qY rfl ?_)
  skip
  refine qF rfl hL ?_
  refine mvT rfl ?_
  refine qF rfl hL ?_
  refine qB (zA rfl rfl) ?_
  refine qF rfl hL ?_
  refine pvB rfl ?_
  refine qF rfl hL ?_
  refine mvB rfl ?_
  refine qI rfl h3 ?_
  refine qI rfl h3 ?_
  refine qI rfl h3 ?_
  refine qF rfl hL ?_
  refine qB (wM rfl h3 (v:=.bool _) rfl) ?_
  refine qB (wM rfl hL (v:=.bool _) rfl) ?_
  refine ⟨false, ⟨rfl, trivial⟩, rfl, rfl, G0, fun h3 E3 => (fun _ => hbb hL), ?_⟩
  repeat (first | exact wQ _ _ | exact qV _ _ _ | refine qX (by decide) ?_ | refine qU rfl ?_ | refine qY rfl ?_)
 rintro q T1 h_q E_q J_q
 refine qR [_] rfl ?_
 refine qP rfl (fun hq => ?_) (fun hq => ?_)
 ·skip
  refine qC (qA rfl ?_)
  refine wI (caps:=[]) (vs:=[]) rfl rfl rfl (warm_ok h_q) ?_
  rintro _ h26 E26 rfl
  refine asB rfl ?_
  refine qQ ?_
  exact ⟨rfl, fun V => (kX (kX E_q E26) (qN V)), rfl⟩
 skip
 obtain ⟨u0, u1, u2, u3⟩ := J_q hq
 have S0 : Small s1 := ⟨by omega, by omega, by omega, by omega⟩
 refine qM ?_
 refine qC (qA rfl ?_)
 refine mvS rfl ?_
 refine zM [_] [] [] rfl rfl rfl ((NewPot_ok l hl A c h_q (R.ext E_q))) ?_
 rintro _ h1 _ E1 ⟨b, x, rfl, rfl⟩
 refine qH [_, _] rfl ?_
 refine zM [_] [_] [] (vs:=_) rfl rfl rfl ((SeasonOf_ok b x 6 3 5 (by omega) (by omega) (by omega) (by omega) h1)) ?_
 rintro _ h2 _ E2 ⟨x2, m, ht, dt, fs, uu, w2, rfl, rfl, ⟨B0, B1, B2, B3, d0, d1, d2, d3, rfl, RM⟩, ST, HA, hc, DA, dc, FA, fc, rfl, RK1, RK2, RK3⟩
 refine qH [_, _] rfl ?_
 have hck : checkM m = 0 := check_T ST (by omega) (by omega) (by omega)
 obtain ⟨N, y1, y2, y3, y4⟩ := checkM_num hck
 have SMd : Small m := ⟨by omega, by omega, by omega, by omega⟩
 refine qB (qK (v:=.tuple #[.agg #[.slice _ _ _, .slice _ _ _, .slice _ _ _, .slice _ _ _], .agg #[.slice _ _ _, .slice _ _ _, .slice _ _ _]]) rfl) ?_
 refine qB (wL (v:=.agg #[.slice _ _ _, .slice _ _ _, .slice _ _ _, .slice _ _ _]) rfl) ?_
 refine qB (wL (v:=.agg #[.slice _ _ _, .slice _ _ _, .slice _ _ _]) rfl) ?_
 refine wT (cs:=[_, _, _, _]) rfl rfl fun b13 hb13 => ?_
 refine qH [_, _, _] rfl ?_
 refine wT (cs:=[_, _, _]) rfl rfl fun b14 hb14 => ?_
 refine qH [_, _, _, _] rfl ?_
 refine qS 2 (v:=.agg #[.slice _ _ _, .slice _ _ _, .slice _ _ _, .slice _ _ _]) (vs:=[_, _, _, _]) (c':=[_, _, _, _]) rfl rfl rfl rfl rfl rfl rfl rfl rfl ?_
 refine qH [_, _, _, _] rfl ?_
 refine qS 3 (v:=.agg #[.slice _ _ _, .slice _ _ _, .slice _ _ _]) (vs:=[_, _, _]) (c':=[_, _, _]) rfl rfl rfl rfl rfl rfl rfl rfl rfl ?_
 refine qH [_, _, _, _] rfl ?_
 refine qC (qA rfl ?_)
 refine qZ 0 (vs:=[.slice _ _ _, .slice _ _ _, .slice _ _ _, .slice _ _ _]) rfl rfl rfl rfl rfl ?_
 refine qZ 2 (vs:=[.slice _ _ _, .slice _ _ _, .slice _ _ _, .slice _ _ _]) rfl rfl rfl rfl rfl ?_
 refine wG (zc:=[_, _, _, _]) (vs:=[(0, .agg #[.slice _ _ _, .slice _ _ _, .slice _ _ _, .slice _ _ _]), (1, .agg #[.slice _ _ _, .slice _ _ _, .slice _ _ _, .slice _ _ _])]) (cs:=[_, _, _, _, _, _, _, _]) rfl rfl rfl rfl rfl rfl rfl fun b50 hb50 => ?_
 refine qH [_, _, _, _, _] rfl ?_
 refine mvT rfl ?_
 refine wG (zc:=[_]) (vs:=[(0, .string _)]) (cs:=[_]) rfl rfl rfl rfl rfl rfl rfl fun b52 hb52 => ?_
 refine qH [_, _, _, _, _, _] rfl ?_
 refine asS rfl ?_
 refine asS rfl ?_
 refine qC (qC (qA rfl ?_))
 refine asI rfl ?_
 refine qT ?_
 refine yP 4 rfl ?_
 intro g6 G6 P6
 obtain ⟨ms, hms⟩ : ∃ x : List Season, x = [s1, m] := ⟨_, rfl⟩
 have hml : ms.length = 2 := by rw [hms]; rfl
 have hmS : ∀ x ∈ ms, Small x := by
  rw [hms]
  intro x hx
  simp only [List.mem_cons, List.not_mem_nil, or_false] at hx
  rcases hx with rfl | rfl
  ·exact S0
  exact SMd
 have R6 := row_blk (enc:=id) (m:=4) (l:=[seasCl A0 A1 A2 A3 c0 c1 c2 c3 s1, seasCl B0 B1 B2 B3 d0 d1 d2 d3 m]) (by intro x hx; simp only [List.mem_cons, List.not_mem_nil, or_false] at hx; rcases hx with rfl | rfl <;> rfl) P6
 have EL6 : ∀ i (hi : i < ms.length), ∃ (hic : i < [seasCl A0 A1 A2 A3 c0 c1 c2 c3 s1, seasCl B0 B1 B2 B3 d0 d1 d2 d3 m].length), ∃ C0 C1 C2 C3 e0 e1 e2 e3, [seasCl A0 A1 A2 A3 c0 c1 c2 c3 s1, seasCl B0 B1 B2 B3 d0 d1 d2 d3 m][i] = seasCl C0 C1 C2 C3 e0 e1 e2 e3 ms[i] ∧ SeasonR g6 C0 C1 C2 C3 ms[i] := by
  subst hms
  intro i hi
  match i, hi with
  | 0, _ => exact ⟨by simp, A0, A1, A2, A3, c0, c1, c2, c3, rfl, RM0.ext (kX (kX (kX E_q E1) E2) G6)⟩
  | 1, _ => exact ⟨by simp, B0, B1, B2, B3, d0, d1, d2, d3, rfl, RM.ext G6⟩
 generalize [seasCl A0 A1 A2 A3 c0 c1 c2 c3 s1, seasCl B0 B1 B2 B3 d0 d1 d2 d3 m] = cs6 at R6 EL6
 refine yC [12, 16, 17, 18, 19, 20, 21, 53, 54, 55, 56, 57, 58, 59, 60, 61, 62, 63, 64, 65, 66, 67, 68, 69, 70, 71, 72, 73, 74, 75, 76, 77, 78, 79, 80, 81, 82, 83, 84, 85, 86] 6 (α:=Nat × Acc) (fun ⟨i, a⟩ => [(17, .int .i64 i), (16, .slice a.A a.n a.c)]) (fun ⟨i, a⟩ L => L.set 5 (a.p)) (fun ⟨i, a⟩ h_i => i ≤ 2 ∧ AccR 9 1 ((t :: (ms.map txtS).take i).flatMap strC) a) (fun ⟨i, a⟩ => 2 - i) ((0, ⟨some (b52, .cells #[.string (bs t)] 9 (0, 0)), some ⟨b52, 0, none⟩, 1, 1⟩)) ⟨rfl, rfl, trivial⟩ (rfl) (⟨Nat.zero_le _, .inr ⟨b52, 1, 1, [], rfl, rfl, rfl, rfl⟩⟩) ?_
 rintro ⟨i, a⟩ T2 h_i E_i J_i
 refine qR [_, _, _, _, _, _] rfl ?_
 obtain ⟨K1, KA⟩ := J_i
 refine qC (qC (qA rfl ?_))
 refine mvI rfl ?_
 refine mvS rfl ?_
 refine qB (wP rfl rfl) ?_
 refine pvB rfl ?_
 refine qP rfl (fun hi => ?_) (fun hi => ?_)
 ·skip
  have hil : i < 2 := by have := of_decide_eq_true hi; omega
  have him : i < ms.length := by omega
  have SM := hmS _ (List.getElem_mem him)
  have htk : (t :: (ms.map txtS).take (i + 1)).flatMap strC = (t :: (ms.map txtS).take i).flatMap strC ++ [.string (bs (txtS ms[i]))] := by
   rw [List.take_add_one, List.getElem?_eq_getElem (by rw [List.length_map]; exact him), List.getElem_map, ← List.cons_append, List.flatMap_append]
   rfl
  have hfl : ((t :: (ms.map txtS).take i).flatMap strC).length ≤ 4 := by
   rw [wO (m:=1) (fun _ _ => rfl), List.length_cons, List.length_take, List.length_map]
   omega
  obtain ⟨hic, xB, xQ, xL, xW, yB, yQ, yL, yW, e6, RMi0⟩ := EL6 i him
  have RMi := RMi0.ext E_i
  obtain ⟨g, off, hA, hc⟩ := (R6.ext E_i).at (by omega) hic
  have hc : Cells h_i g (off + i * 4) (seasCl xB xQ xL xW yB yQ yL yW ms[i]) := by rw [← e6]; exact hc
  generalize ms[i] = mi at *
  refine qM ?_
  refine qC ?_
  refine qT ?_
  refine qC (qA rfl ?_)
  refine mvS rfl ?_
  refine mvI rfl ?_
  refine qB (wK (m:=4) rfl hA rfl rfl rfl (by omega) (by omega)) ?_
  refine zH rfl rfl rfl rfl hc ?_
  refine wI (caps:=[]) (vs:=[.agg #[.slice _ _ _, .slice _ _ _, .slice _ _ _, .slice _ _ _]]) rfl rfl rfl (WriteS_ok mi SM xB xQ xL xW yB yQ yL yW h_i (hP.ext (kX (kX (kX (kX E_q E1) E2) G6) E_i)) RMi) ?_
  rintro v3 h3 E3 hv3
  rw [writeSV_txt] at hv3
  subst hv3
  refine qB (qK (v:=.tuple #[.string _, .int .i64 _]) rfl) ?_
  refine qB (wL (v:=.string _) rfl) ?_
  refine qB (wL (v:=.int .i64 _) rfl) ?_
  refine asT rfl ?_
  refine asI rfl ?_
  refine qC (qA rfl ?_)
  refine mvS rfl ?_
  refine mvI rfl ?_
  refine qB (wK (m:=4) rfl hA rfl rfl rfl (by omega) (by omega)) ?_
  refine zH rfl rfl rfl rfl (hc.ext E3) ?_
  refine wI (caps:=[]) (vs:=[.agg #[.slice _ _ _, .slice _ _ _, .slice _ _ _, .slice _ _ _]]) rfl rfl rfl (WriteR_ok mi SM xB xQ xL xW yB yQ yL yW h3 (hP.ext (kX (kX (kX (kX (kX E_q E1) E2) G6) E_i) E3)) (RMi.ext E3)) ?_
  rintro v4 h4 E4 hv4
  rw [writeSV_txt] at hv4
  subst hv4
  have gg : (!decide (txtS mi = txtS mi)) = false := by simp
  have gg2 : (checkM mi != checkM mi) = false := by simp
  refine qB (qK (v:=.tuple #[.string _, .int .i64 _]) rfl) ?_
  refine qB (wL (v:=.string _) rfl) ?_
  refine qB (wL (v:=.int .i64 _) rfl) ?_
  refine asT rfl ?_
  refine asI rfl ?_
  refine qC (qC (qA rfl ?_))
  refine mvT rfl ?_
  refine mvT rfl ?_
  refine qB (kE rfl rfl) ?_
  refine mvB rfl ?_
  refine qF rfl gg ?_
  refine mvI rfl ?_
  refine qF rfl gg ?_
  refine mvI rfl ?_
  refine qF rfl gg ?_
  refine pvB rfl ?_
  refine qB (wM rfl gg (v:=.bool _) rfl) ?_
  refine wS rfl (gg2) ?_
  refine qM ?_
  refine qA rfl ?_
  refine mvS rfl ?_
  refine mvT rfl ?_
  refine wG (zc:=[_]) (vs:=[(0, .string _)]) (cs:=[_]) rfl rfl rfl rfl rfl rfl rfl fun b85 hb85 => ?_
  refine qH [_, _, _, _, _, _, _] rfl ?_
  refine zE 5 KA rfl rfl rfl (fun V => rdP V (i:=6) rfl) rfl rfl rfl rfl rfl rfl rfl rfl rfl (by omega) rfl (by simp only [List.length_cons, List.length_nil]; omega) fun a2 h3a E3a ha2 => ?_
  refine qH [_, _, _, _, _, _, _] rfl ?_
  refine asS rfl ?_
  refine qA rfl ?_
  refine mvI rfl ?_
  refine qB (qO rfl (by omega)) ?_
  refine asI rfl ?_
  refine ⟨(i + 1, a2), ⟨rfl, rfl, trivial⟩, rfl, rfl, (kX (kX (kX E_i E3) E4) E3a), fun h3 E3 => ⟨by omega, by rw [htk]; exact ha2⟩, by first | omega | (dsimp only; omega), ?_⟩
  repeat (first | exact qV _ _ _ | refine qX (by decide) ?_ | refine qU rfl ?_ | refine qY rfl ?_)
 skip
 have hie : i = 2 := by have := of_decide_eq_false hi; omega
 subst hie
 have hx : (t :: (ms.map txtS).take 2).flatMap strC = [.string (bs t), .string (bs (txtS s1)), .string (bs (txtS m))] := by rw [hms]; rfl
 rw [hx] at KA
 have htm := txtS_len m
 have KA0 := KA
 obtain ⟨p9, A9, n9, c9⟩ := a
 rcases KA0 with ⟨_, h2, _⟩ | ⟨b9, len9, cap9, junk9, h1, h2, h3, h4⟩
 ·cases h2
 simp only [Value.slice.injEq] at h2
 obtain ⟨rfl, rfl, rfl⟩ := h2
 simp only at h3
 subst h3
 obtain rfl : n9 = 3 := by simpa using h1.symm
 refine wV ?_
 refine qC (qA rfl ?_)
 refine mvS rfl ?_
 refine mvS rfl ?_
 refine qB (zK (m:=1) rfl rfl rfl rfl (by decide) (by show (2 : Int) < ((3 : Nat) : Int); decide)) ?_
 refine qL 5 (v:=.string (bs (txtS m))) rfl rfl rfl rfl ?_
 refine mvI rfl ?_
 refine mvI rfl ?_
 refine mvI rfl ?_
 refine wI (caps:=[]) (vs:=[.string _, .int .i64 _, .int .i64 _, .int .u8 _]) rfl rfl rfl (Harmed_ok (txtS m) at_ how by_ h_i (by omega)) ?_
 rintro _ h5 E5 ⟨s5, rfl, hs5⟩
 refine wG (zc:=[_]) (vs:=[(0, .string _)]) (cs:=[_]) rfl rfl rfl rfl rfl rfl rfl fun b95 hb95 => ?_
 refine qH [_, _, _, _, _, _, _] rfl ?_
 refine zE 5 KA rfl rfl rfl (fun V => rdP V (i:=6) rfl) rfl rfl rfl rfl rfl rfl rfl rfl rfl (by omega) rfl (by simp only [List.length_cons, List.length_nil]; omega) fun a3 h4a E4a ha3 => ?_
 refine qH [_, _, _, _, _, _, _] rfl ?_
 refine asS rfl ?_
 refine qC (qC (qA rfl ?_))
 refine asI rfl ?_
 refine qT ?_
 obtain ⟨ts, hts⟩ : ∃ x : List (List UInt8), x = [t, txtS s1, txtS m, s5] := ⟨_, rfl⟩
 have hx3 : [Value.string (bs t), .string (bs (txtS s1)), .string (bs (txtS m))] ++ [.string (bs s5)] = ts.flatMap strC := by rw [hts]; rfl
 have htl : ts.length = 4 := by rw [hts]; rfl
 have ha3' : AccR 9 1 (ts.flatMap strC) a3 := by rw [← hx3]; exact ha3
 obtain ⟨pT, AT, nT, cT⟩ := a3
 obtain rfl : nT = 4 := by have := AccR.len ha3'; rw [wO (m:=1) (fun _ _ => rfl)] at this; dsimp only at this; omega
 dsimp only at *
 refine yD 5 rfl ?_
 intro gT GT PT
 refine qR [_, _, _, _, _, _, _] rfl ?_
 have RT : Row gT 1 strC AT ts := ⟨fun _ _ => rfl, AccR.rd ha3' PT⟩
 refine zF [12, 22, 23, 24, 25, 26, 27, 28, 97, 98, 99, 100, 101, 102, 103, 104, 105, 106, 107, 108, 109, 110, 111, 112, 113, 114, 115, 116, 117, 118, 119, 120, 121, 122, 123, 124, 125, 126, 127, 128, 129, 130, 131, 132, 133, 134] 7 (α:=Nat) (fun j => [(22, .int .i64 j)]) (fun j => _) (fun j h_j => j ≤ 4) (fun j => 4 - j) (0) ⟨rfl, trivial⟩ (rfl) (Nat.zero_le _) ?_
 rintro j T5 h_j E_j J_j
 refine qR [_, _, _, _, _, _, _] rfl ?_
 refine qC (qC (qA rfl ?_))
 refine mvI rfl ?_
 refine mvS rfl ?_
 refine qB (wP rfl rfl) ?_
 refine pvB rfl ?_
 refine qP rfl (fun hj => ?_) (fun hj => ?_)
 ·skip
  have hjl : j < 4 := by have := of_decide_eq_true hj; omega
  have hjt : j < ts.length := by omega
  obtain ⟨g, off, hA, hc⟩ := (RT.ext E_j).at (by decide) hjt
  generalize ts[j] = s at *
  obtain ⟨mr, rr, er, hr⟩ : ∃ mr rr er, readS s = (mr, rr, er) := ⟨_, _, _, rfl⟩
  have SMr := readS_sml hr
  have gg1 : (rr != rr) = false := by simp
  have gg2 : (er != er) = false := by simp
  refine qM ?_
  refine qC ?_
  refine qT ?_
  refine qC (qA rfl ?_)
  refine mvS rfl ?_
  refine mvI rfl ?_
  refine qB (wK rfl hA rfl rfl rfl (by omega) (by omega)) ?_
  refine wX (v:=.string _) rfl rfl ((hc) 0 _ rfl) ?_
  refine wI (caps:=[]) (vs:=[.string _]) rfl rfl rfl (ReadS_ok s h_j (hP.ext (kX (kX (kX (kX (kX (kX (kX (kX E_q E1) E2) G6) E_i) E5) E4a) GT) E_j)) (hE.ext (kX (kX (kX (kX (kX (kX (kX (kX E_q E1) E2) G6) E_i) E5) E4a) GT) E_j))) ?_
  rintro v6 h6 E6 ⟨V6, hv6, MV6⟩
  rw [hr] at hv6 MV6
  obtain ⟨F0, F1, F2, F3, f0, f1, f2, f3, rfl, RM6⟩ := MV6
  subst hv6
  refine qB (qK (v:=.tuple #[.agg #[.slice _ _ _, .slice _ _ _, .slice _ _ _, .slice _ _ _], .int .i64 _, .int .i64 _]) rfl) ?_
  refine qB (wL (v:=.agg #[.slice _ _ _, .slice _ _ _, .slice _ _ _, .slice _ _ _]) rfl) ?_
  refine qB (wL (v:=.int .i64 _) rfl) ?_
  refine qB (wL (v:=.int .i64 _) rfl) ?_
  refine wT (cs:=[_, _, _, _]) rfl rfl fun b23 hb23 => ?_
  refine qH [_, _, _, _, _, _, _, _] rfl ?_
  refine qS 7 (v:=.agg #[.slice _ _ _, .slice _ _ _, .slice _ _ _, .slice _ _ _]) (vs:=[_, _, _, _]) (c':=[_, _, _, _]) rfl rfl rfl rfl rfl rfl rfl rfl rfl ?_
  refine qH [_, _, _, _, _, _, _, _] rfl ?_
  refine asI rfl ?_
  refine asI rfl ?_
  refine qC (qA rfl ?_)
  refine mvS rfl ?_
  refine mvI rfl ?_
  refine qB (wK rfl hA rfl rfl rfl (by omega) (by omega)) ?_
  refine wX (v:=.string _) rfl rfl (((hc.ext E6)) 0 _ rfl) ?_
  refine wI (caps:=[]) (vs:=[.string _]) rfl rfl rfl (ReadR_ok s h6) ?_
  rintro v7 h7 E7 ⟨V7, hv7, MV7⟩
  rw [hr] at hv7 MV7
  obtain ⟨I0, I1, I2, I3, i0, i1, i2, i3, rfl, RM7⟩ := MV7
  subst hv7
  refine qB (qK (v:=.tuple #[.agg #[.slice _ _ _, .slice _ _ _, .slice _ _ _, .slice _ _ _], .int .i64 _, .int .i64 _]) rfl) ?_
  refine qB (wL (v:=.agg #[.slice _ _ _, .slice _ _ _, .slice _ _ _, .slice _ _ _]) rfl) ?_
  refine qB (wL (v:=.int .i64 _) rfl) ?_
  refine qB (wL (v:=.int .i64 _) rfl) ?_
  refine wT (cs:=[_, _, _, _]) rfl rfl fun b26 hb26 => ?_
  refine qH [_, _, _, _, _, _, _, _, _] rfl ?_
  refine qS 8 (v:=.agg #[.slice _ _ _, .slice _ _ _, .slice _ _ _, .slice _ _ _]) (vs:=[_, _, _, _]) (c':=[_, _, _, _]) rfl rfl rfl rfl rfl rfl rfl rfl rfl ?_
  refine qH [_, _, _, _, _, _, _, _, _] rfl ?_
  refine asI rfl ?_
  refine asI rfl ?_
  refine qC (qA rfl ?_)
  refine mvI rfl ?_
  refine mvI rfl ?_
  refine pvB rfl ?_
  refine mvB rfl ?_
  refine qF rfl gg1 ?_
  refine mvI rfl ?_
  refine qF rfl gg1 ?_
  refine mvI rfl ?_
  refine qF rfl gg1 ?_
  refine pvB rfl ?_
  refine qB (wM rfl gg1 (v:=.bool _) rfl) ?_
  refine mvB rfl ?_
  refine qF rfl gg2 ?_
  refine qZ 7 (vs:=[.slice _ _ _, .slice _ _ _, .slice _ _ _, .slice _ _ _]) rfl rfl rfl rfl rfl ?_
  refine qF rfl gg2 ?_
  refine qZ 8 (vs:=[.slice _ _ _, .slice _ _ _, .slice _ _ _, .slice _ _ _]) rfl rfl rfl rfl rfl ?_
  refine qF rfl gg2 ?_
  refine wI (caps:=[]) (vs:=[.agg #[.slice _ _ _, .slice _ _ _, .slice _ _ _, .slice _ _ _], .agg #[.slice _ _ _, .slice _ _ _, .slice _ _ _, .slice _ _ _]]) rfl rfl rfl (sameSeasons_ok mr mr F0 F1 F2 F3 I0 I1 I2 I3 f0 f1 f2 f3 i0 i1 i2 i3 h7 (RM6.ext E7) (RM7.ext (Ext.refl _)) SMr.h0 SMr.h1 SMr.h2 SMr.h3) ?_
  rintro v8 h8 E8 hv8
  rw [decide_eq_true (rfl : mr = mr)] at hv8
  subst hv8
  refine qF rfl gg2 ?_
  refine pvB rfl ?_
  refine qB (wM rfl gg2 (v:=.bool _) rfl) ?_
  refine wS rfl (rfl) ?_
  refine qM ?_
  refine qA rfl ?_
  refine mvI rfl ?_
  refine qB (qO rfl (by omega)) ?_
  refine asI rfl ?_
  refine ⟨j + 1, ⟨rfl, trivial⟩, rfl, rfl, (kX (kX (kX E_j E6) E7) E8), fun h3 E3 => hjl, by first | omega | (dsimp only; omega), ?_⟩
  repeat (first | exact qV _ _ _ | refine qX (by decide) ?_ | refine qU rfl ?_ | refine qY rfl ?_)
 skip
 refine wV ?_
 refine qC (qA rfl ?_)
 refine wI (caps:=[]) (vs:=[]) rfl rfl rfl (warm_ok h_j) ?_
 rintro _ h9 E9 rfl
 refine asB rfl ?_
 refine qQ ?_
 exact ⟨rfl, fun V => (kX (kX (kX (kX (kX (kX (kX (kX (kX (kX E_q E1) E2) G6) E_i) E5) E4a) GT) E_j) E9) (qN V)), rfl⟩
end
end Go.Proofs.YtboigjfgpppeaaaGreatDoor
namespace Go.HL
open Go Go.Wx Go.RowKit Go.ChangeShapes Go.WideShapes
variable [Lvl]
section
variable {H : Type} {enc : TypeId × Value → H} {P : Program} {w : World} {base : Nat} {spare : Nat → Bool} {held : Bool}
theorem row_slice {α : Type} (en : α → List Value) {t e : TypeId} {m fuel : Nat} {cs : List Value} {x : DataW H × List MemPlace} (ht : P.underlying t = some (.slice e)) (hc : P.cellsOf e = m) (hm : 0 < m) (he : ∀ a, (en a).length = m)
  (leaf : ∀ n cs x, DataW.trod enc P w base spare held n e cs = some x → ∃ a, cs = en a) (h : DataW.trod enc P w base spare held fuel t cs = some x) :
  ∃ (A : Option Addr) (len cap : Nat) (l : List α), cs = [.slice A len cap] ∧ l.length = len ∧ Row (absH w.heap) m en A l ∧ len ≤ maxLen := by
 rcases Go.Deep.open_slice ht h with ⟨rfl, _⟩ | ⟨a, len, cap, mm, n, D, Pl, rfl, hb, hl, hmx, hmm, _, hel⟩
 ·exact ⟨none, 0, 0, [], rfl, rfl, ⟨fun _ h => (by cases h), Rd.nil _ _⟩, Nat.zero_le _⟩
 have hlm : len ≤ mm := by rw [hmm]; split <;> omega
 have key : ∀ i : _root_.Fin len, ∃ v : α, w.cells? base (a.add (i.val * m)) m = some (en v) := by
  intro i
  obtain ⟨cs', h1, h2⟩ := hel i.val (by have := i.isLt; omega)
  obtain ⟨v, rfl⟩ := leaf _ _ _ h2
  rw [hc] at h1
  exact ⟨v, h1⟩
 let l := List.ofFn fun i : _root_.Fin len => Classical.choose (key i)
 have hll : l.length = len := by simp [l]
 have hat : ∀ (i : Nat) (hi : i < l.length), w.cells? base (a.add (i * m)) m = some (en l[i]) := by
  intro i hi
  have := Classical.choose_spec (key ⟨i, by omega⟩)
  simpa [l] using this
 refine ⟨some a, len, cap, l, rfl, hll, ⟨fun x _ => he x, fun hne => ?_⟩, by omega⟩
 have hpos : 0 < l.length := by
  rcases Nat.eq_zero_or_pos l.length with h0 | h0
  ·rw [List.eq_nil_of_length_eq_zero h0] at hne; simp at hne
  exact h0
 obtain ⟨g, off, sp⟩ := a
 have h0 := hat 0 hpos
 obtain ⟨_, _, hcell⟩ := World.cells?_some h0
 have h00 := hcell 0 hm
 rw [Go.Deep.add_add, Nat.zero_mul, Nat.add_zero, List.getElem?_eq_getElem (by rw [he]; exact hm)] at h00
 have hsp : sp = none := by
  cases sp with
  | none => rfl
  | some s =>
   exfalso
   have : w.cell? ((⟨g, off, some s⟩ : Addr).add 0) = none := by
    simp only [Addr.add]
    rw [cell_abs]
    unfold cellA
    split <;> simp
   rw [this] at h00
   cases h00
 subst hsp
 refine ⟨g, off, rfl, fun j u hu => ?_⟩
 have hj : j < l.length * m := by
  have := (List.getElem?_eq_some_iff.1 hu).1
  rwa [wO (fun x _ => he x)] at this
 have hi : j / m < l.length := Nat.div_lt_of_lt_mul (by rw [Nat.mul_comm]; exact hj)
 have hr : j % m < m := Nat.mod_lt _ hm
 have hjm : j / m * m + j % m = j := by rw [Nat.mul_comm]; exact Nat.div_add_mod j m
 obtain ⟨_, _, hcl⟩ := World.cells?_some (hat (j / m) hi)
 have h1 := hcl (j % m) hr
 have h2 : (en l[j / m])[j % m]? = some ((en l[j / m])[j % m]'(by rw [he]; exact hr)) := List.getElem?_eq_getElem _
 have h3 := flat_get en m l (fun x _ => he x) (j / m) _ (List.getElem?_eq_getElem hi) (j % m) _ h2
 rw [hjm, hu] at h3
 rw [h2, ← h3, Go.Deep.add_add, hjm, cell_abs, vM] at h1
 exact h1
end
end Go.HL
namespace Go.Proofs.YtboigjfgpppeaaaGreatDoor
open Go Go.HL Go.Wx Go.RowKit Go.ChangeShapes Go.WideShapes
variable [Lvl]
set_option maxRecDepth 100000
theorem cells3 : Tryz.prog.cellsOf 3 = 1 := by kernel_rfl
theorem cells4 : Tryz.prog.cellsOf 4 = 1 := by kernel_rfl
theorem cells22 : Tryz.prog.cellsOf 22 = 1 := by kernel_rfl
theorem cells23 : Tryz.prog.cellsOf 23 = 1 := by kernel_rfl
theorem cells24 : Tryz.prog.cellsOf 24 = 1 := by kernel_rfl
theorem cells26 : Tryz.prog.cellsOf 26 = 4 := by kernel_rfl
theorem cells51 : Tryz.prog.cellsOf 56 = 2 := by kernel_rfl
theorem cells53 : Tryz.prog.cellsOf 60 = 9 := by kernel_rfl
theorem cells56 : Tryz.prog.cellsOf 63 = 3 := by kernel_rfl
section
variable {H : Type} {enc : TypeId × Value → H} {w : World} {base : Nat} {spare : Nat → Bool} {held : Bool}
theorem int_leaf {n : Nat} {cs : List Value} {x : DataW H × List MemPlace} (h : DataW.trod enc Tryz.prog w base spare held n 3 cs = some x) : ∃ z : Int, cs = [.int .i64 z] := by
 obtain ⟨z, e, _⟩ := DataW.trod_int Tryz.underlying3 h
 exact ⟨z, e⟩
theorem bool_leaf {n : Nat} {cs : List Value} {x : DataW H × List MemPlace} (h : DataW.trod enc Tryz.prog w base spare held n 4 cs = some x) : ∃ b : Bool, cs = [.bool b] := by
 obtain ⟨z, e, _⟩ := DataW.trod_bool Tryz.underlying4 h
 exact ⟨z, e⟩
theorem vO {α : Type} {xs : List α} {n i : Nat} (h : xs.length = n) (hi : i < n) : ∃ y, xs[i]? = some y := ⟨_, List.getElem?_eq_getElem (by omega)⟩
theorem rg_leaf {n : Nat} {cs : List Value} {x : DataW H × List MemPlace} (h : DataW.trod enc Tryz.prog w base spare held n 56 cs = some x) : ∃ r : Rg, cs = rgC r := by
 obtain ⟨xs, m, _, _, hl, hx, hf⟩ := DataW.trod_struct Tryz.underlying56 h
 rw [cells51] at hl
 obtain ⟨y0, e0⟩ := vO (i:=0) hx (by decide)
 obtain ⟨y1, e1⟩ := vO (i:=1) hx (by decide)
 obtain ⟨a, ha⟩ := int_leaf ((show DataW.trod enc Tryz.prog w base spare held m 3 ((cs.drop 0).take (Tryz.prog.cellsOf 3)) = xs[0]? from hf 0 _ rfl).trans e0)
 obtain ⟨b, hb⟩ := int_leaf ((show DataW.trod enc Tryz.prog w base spare held m 3 ((cs.drop 1).take (Tryz.prog.cellsOf 3)) = xs[1]? from hf 1 _ rfl).trans e1)
 rw [cells3] at ha hb
 match cs, hl with
 | [u, v], _ =>
  simp at ha hb
  exact ⟨⟨a, b⟩, by rw [ha, hb]; rfl⟩
theorem seen_leaf {n : Nat} {cs : List Value} {x : DataW H × List MemPlace} (h : DataW.trod enc Tryz.prog w base spare held n 63 cs = some x) : ∃ r : Seen, cs = seenC r := by
 obtain ⟨xs, m, _, _, hl, hx, hf⟩ := DataW.trod_struct Tryz.underlying63 h
 rw [cells56] at hl
 obtain ⟨y0, e0⟩ := vO (i:=0) hx (by decide)
 obtain ⟨y1, e1⟩ := vO (i:=1) hx (by decide)
 obtain ⟨y2, e2⟩ := vO (i:=2) hx (by decide)
 obtain ⟨a, ha⟩ := int_leaf ((show DataW.trod enc Tryz.prog w base spare held m 3 ((cs.drop 0).take (Tryz.prog.cellsOf 3)) = xs[0]? from hf 0 _ rfl).trans e0)
 obtain ⟨b, hb⟩ := int_leaf ((show DataW.trod enc Tryz.prog w base spare held m 3 ((cs.drop 1).take (Tryz.prog.cellsOf 3)) = xs[1]? from hf 1 _ rfl).trans e1)
 obtain ⟨c, hc⟩ := bool_leaf ((show DataW.trod enc Tryz.prog w base spare held m 4 ((cs.drop 2).take (Tryz.prog.cellsOf 4)) = xs[2]? from hf 2 _ rfl).trans e2)
 rw [cells3] at ha hb
 rw [cells4] at hc
 match cs, hl with
 | [u, v, z], _ =>
  simp at ha hb hc
  exact ⟨⟨a, b, c⟩, by rw [ha, hb, hc]; rfl⟩
theorem joint_leaf {n : Nat} {cs : List Value} {x : DataW H × List MemPlace} (h : DataW.trod enc Tryz.prog w base spare held n 60 cs = some x) : ∃ j : Joint, cs = jointC j := by
 obtain ⟨xs, m, _, _, hl, hx, hf⟩ := DataW.trod_struct Tryz.underlying60 h
 rw [cells53] at hl
 obtain ⟨y0, e0⟩ := vO (i:=0) hx (by decide)
 obtain ⟨y1, e1⟩ := vO (i:=1) hx (by decide)
 obtain ⟨y2, e2⟩ := vO (i:=2) hx (by decide)
 obtain ⟨y3, e3⟩ := vO (i:=3) hx (by decide)
 obtain ⟨y4, e4⟩ := vO (i:=4) hx (by decide)
 obtain ⟨a, ha⟩ := int_leaf ((show DataW.trod enc Tryz.prog w base spare held m 3 ((cs.drop 0).take (Tryz.prog.cellsOf 3)) = xs[0]? from hf 0 _ rfl).trans e0)
 obtain ⟨r1, h1⟩ := rg_leaf ((show DataW.trod enc Tryz.prog w base spare held m 56 ((cs.drop 1).take (Tryz.prog.cellsOf 56)) = xs[1]? from hf 1 _ rfl).trans e1)
 obtain ⟨r2, h2⟩ := rg_leaf ((show DataW.trod enc Tryz.prog w base spare held m 56 ((cs.drop 3).take (Tryz.prog.cellsOf 56)) = xs[2]? from hf 2 _ rfl).trans e2)
 obtain ⟨r3, h3⟩ := rg_leaf ((show DataW.trod enc Tryz.prog w base spare held m 56 ((cs.drop 5).take (Tryz.prog.cellsOf 56)) = xs[3]? from hf 3 _ rfl).trans e3)
 obtain ⟨r4, h4⟩ := rg_leaf ((show DataW.trod enc Tryz.prog w base spare held m 56 ((cs.drop 7).take (Tryz.prog.cellsOf 56)) = xs[4]? from hf 4 _ rfl).trans e4)
 rw [cells3] at ha
 rw [cells51] at h1 h2 h3 h4
 match cs, hl with
 | [u0, u1, u2, u3, u4, u5, u6, u7, u8], _ =>
  simp [rgC] at ha h1 h2 h3 h4
  refine ⟨⟨a, r1, r2, r3, r4⟩, ?_⟩
  rw [ha, h1.1, h1.2, h2.1, h2.2, h3.1, h3.2, h4.1, h4.2]
  rfl
theorem season_in {r : Reach} {b0 : Nat} {v : Value} {d : DataW H} {p : List MemPlace} (hv : Value.okWide Tryz.prog w r b0 26 v) (h : DataW.Trod enc Tryz.prog w base spare held 26 v d p) :
  ∃ (s : Season) (A0 A1 A2 A3 : Option Addr) (c0 c1 c2 c3 : Nat), v = seasonV A0 A1 A2 A3 c0 c1 c2 c3 s ∧ SeasonR (absH w.heap) A0 A1 A2 A3 s := by
 obtain ⟨cs, rfl, hs⟩ := okWide_struct Tryz.underlying26 hv
 obtain ⟨fuel, hf0⟩ := h
 have hcs : (Value.agg cs).cells.toList = cs.toList := rfl
 rw [hcs] at hf0
 obtain ⟨xs, m, _, _, hl, hx, hf⟩ := DataW.trod_struct Tryz.underlying26 hf0
 rw [cells26] at hl
 obtain ⟨y0, e0⟩ := vO (i:=0) hx (by decide)
 obtain ⟨y1, e1⟩ := vO (i:=1) hx (by decide)
 obtain ⟨y2, e2⟩ := vO (i:=2) hx (by decide)
 obtain ⟨y3, e3⟩ := vO (i:=3) hx (by decide)
 obtain ⟨A0, n0, c0, l0, h0, k0, R0, _⟩ := row_slice rgC Tryz.underlying22 cells51 (by omega) (fun _ => rfl) (fun _ _ _ => rg_leaf) ((show DataW.trod enc Tryz.prog w base spare held m 22 ((cs.toList.drop 0).take (Tryz.prog.cellsOf 22)) = xs[0]? from hf 0 _ rfl).trans e0)
 obtain ⟨A1, n1, c1, l1, h1, k1, R1, _⟩ := row_slice rgC Tryz.underlying22 cells51 (by omega) (fun _ => rfl) (fun _ _ _ => rg_leaf) ((show DataW.trod enc Tryz.prog w base spare held m 22 ((cs.toList.drop 1).take (Tryz.prog.cellsOf 22)) = xs[1]? from hf 1 _ rfl).trans e1)
 obtain ⟨A2, n2, c2, l2, h2, k2, R2, _⟩ := row_slice jointC Tryz.underlying23 cells53 (by omega) (fun _ => rfl) (fun _ _ _ => joint_leaf) ((show DataW.trod enc Tryz.prog w base spare held m 23 ((cs.toList.drop 2).take (Tryz.prog.cellsOf 23)) = xs[2]? from hf 2 _ rfl).trans e2)
 obtain ⟨A3, n3, c3, l3, h3, k3, R3, _⟩ := row_slice seenC Tryz.underlying24 cells56 (by omega) (fun _ => rfl) (fun _ _ _ => seen_leaf) ((show DataW.trod enc Tryz.prog w base spare held m 24 ((cs.toList.drop 3).take (Tryz.prog.cellsOf 24)) = xs[3]? from hf 3 _ rfl).trans e3)
 rw [cells22] at h0 h1
 rw [cells23] at h2
 rw [cells24] at h3
 obtain ⟨l⟩ := cs
 match l, hl with
 | [u0, u1, u2, u3], _ =>
  simp at h0 h1 h2 h3
  refine ⟨⟨l0, l1, l2, l3⟩, A0, A1, A2, A3, c0, c1, c2, c3, ?_, ⟨R0, R1, R2, R3⟩⟩
  rw [h0, h1, h2, h3, ← k0, ← k1, ← k2, ← k3]
  rfl
theorem ints_in {r : Reach} {b0 : Nat} {v : Value} {d : DataW H} {p : List MemPlace} (hv : Value.okWide Tryz.prog w r b0 27 v) (h : DataW.Trod enc Tryz.prog w base spare held 27 v d p) :
  ∃ (l : List Int) (A : Option Addr) (c : Nat), v = .slice A l.length c ∧ Row (absH w.heap) 1 intC A l ∧ l.length ≤ maxLen := by
 obtain ⟨a0, len0, cap0, rfl⟩ := okWide_slice Tryz.underlying27 hv
 obtain ⟨fuel, hf⟩ := h
 obtain ⟨A, n, c, l, e, k, R, hm⟩ := row_slice intC Tryz.underlying27 cells3 (by omega) (fun _ => rfl) (fun _ _ _ => int_leaf) hf
 have hcs : (Value.slice a0 len0 cap0).cells.toList = [.slice a0 len0 cap0] := rfl
 rw [hcs] at e
 simp at e
 obtain ⟨rfl, rfl, rfl⟩ := e
 subst k
 exact ⟨l, _, _, rfl, R, hm⟩
end
end Go.Proofs.YtboigjfgpppeaaaGreatDoor
