/- An own logic over the model, its walks and its plain laws, joined of parts Q3 P5 P6 W23 W24 Ta W25 Tb Tc Td U CC W26 Te W27 W28 Tf Tg W29 W30 W31 Th W32 Ti W33 Tj W34 W35 Tk Tl W37 W38 Tm W39 W40 W41. Conditions: as each theorem states. -/
import Derived.Test.YtboigjfgpppeaaaGreatDoorLa6
import Derived.Test.YtboigjfgpppeaaaGreatDoorLa5
import Derived.Test.YtboigjfgpppeaaaGreatDoorLa4
import Derived.Test.YtboigjfgpppeaaaGreatDoorLa1
import Derived.Test.YtboigjfgpppeaaaGreatDoorLa2
set_option linter.all false
namespace Go.Proofs.YtboigjfgpppeaaaGreatDoor
open Go Go.HL Go.Proofs Go.Wx Go.Rd
section
variable [Lvl]
set_option maxRecDepth 100000
set_option maxHeartbeats 4000000 in
theorem takeR_ok (bm : Nat) (s : Season) (x : SAcc) (w : List UInt8) (ws : List (List UInt8)) (AW : Option Addr) (cW k : Nat) (h : AH) (RW : Row h 1 strC AW (w :: ws)) (hcW : (w :: ws).length ≤ cW) (hwn : ∀ r ∈ w :: ws, r.length < 2 ^ 20) (hwl : ws.length < 2 ^ 19) (AS : AccS s x) (LS : LenS s k) (hk : k < 2 ^ 18) :
  FnM Tryz.prog (.func (.func 36) #[] ([] : List Value).toArray) [.pointer (some ⟨bm, 0, none⟩), .slice AW (w :: ws).length cW] h (sPv bm x)
  (fun v h' M' => v = .bool (takeX s w ws).isSome ∧ ∃ x', M' = sPv bm x' ∧ ∀ s', takeX s w ws = some s' → AccS s' x') := by
 have lh := LS.h
 have ld := LS.d
 have lj := LS.j
 have lr := LS.r
 have hnJ : x.aJ.n = s.joints.length := by have := AccR.len AS.j; rw [wO (m:=9) (fun _ _ => rfl)] at this; omega
 have hnR : x.aR.n = s.reports.length := by have := AccR.len AS.r; rw [wO (m:=3) (fun _ _ => rfl)] at this; omega
 have hwl2 : (w :: ws).length = ws.length + 1 := rfl
 obtain ⟨g0, f0, hA0, hc0⟩ := RW.at (by decide) (i:=0) (by simp)
 have RT := row_tail RW (by simpa using hcW)
 refine zW rfl rfl Tryz.func36 rfl Tryz.ntmps36 rfl ?_
 refine qC (qA rfl ?_)
 refine asB rfl ?_
 refine qC (qC (qA rfl ?_))
 refine mvS rfl ?_
 refine qB (wK rfl hA0 rfl rfl rfl (by simp) (by rw [hwl2]; push_cast; omega)) ?_
 refine wX (v:=.string (bs w)) rfl rfl (hc0 0 _ rfl) ?_
 refine qT ?_
 refine qC (qA rfl ?_)
 refine qB (yE rfl rfl) ?_
 refine asB rfl ?_
 refine qP rfl (fun hw1 => ?_) (fun hw1 => ?_)
 ·skip
  have hw1' : w = weekB := of_decide_eq_true hw1
  have htk : takeX s w ws = (weekP ws).bind fun x => if s.joints.length + s.reports.length > 0 then none else some (putW s x) := by unfold takeX; rw [if_pos hw1']
  refine qC (qA rfl ?_)
  refine mvS rfl ?_
  refine qB (pv_sliceLoS (m:=1) 1 (l':=ws.length) (c':=cW - 1) (A':=if cW = 1 then AW else AW.map (·.add (1 * 1))) rfl rfl rfl rfl rfl (by omega) (by omega) rfl (by omega) rfl) ?_
  refine wI (caps:=[]) (vs:=[.slice _ _ _, .int .i64 _]) rfl rfl rfl (toRanges_ok ws 2 _ _ h (RT.ext (Ext.refl _)) (fun y hy => hwn y (by simp [hy])) (by omega) (by decide)) ?_
  rintro _ h2 E2 ⟨A2, n2, c2, rfl, hR⟩
  refine qB (qK (v:=.tuple #[.slice _ _ _, .bool _]) rfl) ?_
  refine qB (wL (v:=.slice _ _ _) rfl) ?_
  refine pvB rfl ?_
  refine asS rfl ?_
  refine asB rfl ?_
  refine qC ?_
  cases hq : rangesR 2 ws with
  | none =>
   have hno : takeX s w ws = none := by rw [htk]; unfold weekP; rw [hq]; rfl
   have gA : (!(none : Option (List Rg)).isSome) = true := rfl
   refine qC ?_
   refine zL [] rfl rfl rfl ?_
   refine qE (i:=0) rfl (by decide +kernel) (qK (v:=.bool _) rfl) ?_
   refine qE (i:=1) rfl (by decide +kernel) (wL (v:=.bool _) rfl) ?_
   refine qE (i:=2) rfl (by decide +kernel) (qK (v:=.bool _) rfl) ?_
   refine yF (i:=3) rfl (by decide +kernel) rfl gA ?_
   refine yF (i:=4) rfl (by decide +kernel) rfl gA ?_
   refine yF (i:=5) rfl (by decide +kernel) rfl gA ?_
   refine yF (i:=6) rfl (by decide +kernel) rfl gA ?_
   refine yF (i:=7) rfl (by decide +kernel) rfl gA ?_
   refine yF (i:=8) rfl (by decide +kernel) rfl gA ?_
   refine yF (i:=9) rfl (by decide +kernel) rfl gA ?_
   refine yF (i:=10) rfl (by decide +kernel) rfl gA ?_
   refine yF (i:=11) rfl (by decide +kernel) rfl gA ?_
   refine yF (i:=12) rfl (by decide +kernel) rfl gA ?_
   refine yF (i:=13) rfl (by decide +kernel) rfl gA ?_
   refine yF (i:=14) rfl (by decide +kernel) rfl gA ?_
   refine qE (i:=15) rfl (by decide +kernel) (wN rfl gA (v:=.bool _) rfl) ?_
   refine zB rfl ?_
   refine wW rfl (rfl) ?_
   refine qC (qA rfl ?_)
   refine asB rfl ?_
   refine qQ ?_
   refine qJ (vs:=[_]) Tryz.results36 ⟨qG rfl rfl, trivial⟩ fun V => ?_
   exact ⟨_, _, rfl, V, E2, by rw [hno]; rfl, x, rfl, fun s' e => by rw [hno] at e; cases e⟩
  | some l =>
   obtain ⟨rfl, RA⟩ := hR l hq
   have hll : l.length = 2 := by
    unfold rangesR at hq
    split at hq
    ·rename_i hz; rw [kO hq, hz]
    cases hq
   match l, hll with
   | [a, b], _ =>
    have hwk : weekP ws = some (a, b) := by unfold weekP; rw [hq]
    have gA : (!(some [a, b]).isSome) = false := rfl
    refine qC ?_
    refine zL [] rfl rfl rfl ?_
    refine qE (i:=0) rfl (by decide +kernel) (qK (v:=.bool _) rfl) ?_
    refine qE (i:=1) rfl (by decide +kernel) (wL (v:=.bool _) rfl) ?_
    refine qE (i:=2) rfl (by decide +kernel) (qK (v:=.bool _) rfl) ?_
    refine yI (i:=3) rfl (by decide +kernel) rfl gA (qK (v:=.pointer (some ⟨bm, 0, none⟩)) rfl) ?_
    refine yI (i:=4) rfl (by decide +kernel) rfl gA (wL (v:=.pointer (some ⟨bm, 0, none⟩)) rfl) ?_
    refine yI (i:=5) rfl (by decide +kernel) rfl gA (qD rfl rfl rfl rfl 2 rfl) ?_
    refine dw_loadG (i:=6) rfl (by decide +kernel) rfl gA ?_
    refine qL 0 (v:=.slice _ _ _) rfl rfl rfl rfl ?_
    refine yI (i:=7) rfl (by decide +kernel) rfl gA (wP rfl rfl) ?_
    refine yI (i:=8) rfl (by decide +kernel) rfl gA (qK (v:=.pointer (some ⟨bm, 0, none⟩)) rfl) ?_
    refine yI (i:=9) rfl (by decide +kernel) rfl gA (wL (v:=.pointer (some ⟨bm, 0, none⟩)) rfl) ?_
    refine yI (i:=10) rfl (by decide +kernel) rfl gA (qD rfl rfl rfl rfl 3 rfl) ?_
    refine dw_loadG (i:=11) rfl (by decide +kernel) rfl gA ?_
    refine qL 0 (v:=.slice _ _ _) rfl rfl rfl rfl ?_
    refine yI (i:=12) rfl (by decide +kernel) rfl gA (wP rfl rfl) ?_
    refine yI (i:=13) rfl (by decide +kernel) rfl gA (qO rfl (by omega)) ?_
    refine yI (i:=14) rfl (by decide +kernel) rfl gA (wL (v:=.bool _) rfl) ?_
    refine qE (i:=15) rfl (by decide +kernel) (wM rfl gA (v:=.bool _) rfl) ?_
    refine zB rfl ?_
    refine qP rfl (fun hz => ?_) (fun hz => ?_)
    ·skip
     have hz' : s.joints.length + s.reports.length > 0 := by have := of_decide_eq_true hz; omega
     have hno : takeX s w ws = none := by rw [htk, hwk, Option.bind_some, if_pos hz']
     refine qC (qA rfl ?_)
     refine asB rfl ?_
     refine qQ ?_
     refine qJ (vs:=[_]) Tryz.results36 ⟨qG rfl rfl, trivial⟩ fun V => ?_
     exact ⟨_, _, rfl, V, E2, by rw [hno]; rfl, x, rfl, fun s' e => by rw [hno] at e; cases e⟩
    skip
    have hz' : ¬ (s.joints.length + s.reports.length > 0) := by have := of_decide_eq_false hz; omega
    have hyes : takeX s w ws = some (putW s (a, b)) := by rw [htk, hwk, Option.bind_some, if_neg hz']
    obtain ⟨p0, o0, i0, j0⟩ := RA.at (by decide) (i:=0) (by simp)
    obtain ⟨p1, o1, i1, j1⟩ := RA.at (by decide) (i:=1) (by simp)
    refine qM ?_
    refine qC ?_
    refine zL [false, true, true, false, false] rfl rfl rfl ?_
    refine qE (i:=0) rfl (by decide +kernel) (qK (v:=.pointer (some ⟨bm, 0, none⟩)) rfl) ?_
    refine qE (i:=1) rfl (by decide +kernel) (qK (v:=.pointer (some ⟨bm, 0, none⟩)) rfl) ?_
    refine qE (i:=2) rfl (by decide +kernel) (qK (v:=.pointer (some ⟨bm, 0, none⟩)) rfl) ?_
    refine qE (i:=3) rfl (by decide +kernel) (wL (v:=.pointer (some ⟨bm, 0, none⟩)) rfl) ?_
    refine qE (i:=4) rfl (by decide +kernel) (qD rfl rfl rfl rfl 0 rfl) ?_
    refine wD (i:=5) rfl (by decide +kernel) ?_
    refine qL 0 (v:=.slice _ _ _) rfl rfl rfl rfl ?_
    refine qE (i:=6) rfl (by decide +kernel) (qK (v:=.slice _ _ _) rfl) ?_
    refine qE (i:=7) rfl (by decide +kernel) (wK rfl i0 rfl rfl rfl (by simp) (by simp)) ?_
    refine wD (i:=8) rfl (by decide +kernel) ?_
    refine zH rfl rfl rfl rfl (j0) ?_
    refine qE (i:=11) rfl (by decide +kernel) (qK (v:=.pointer (some ⟨bm, 0, none⟩)) rfl) ?_
    refine qE (i:=12) rfl (by decide +kernel) (wL (v:=.pointer (some ⟨bm, 0, none⟩)) rfl) ?_
    refine qE (i:=13) rfl (by decide +kernel) (qD rfl rfl rfl rfl 1 rfl) ?_
    refine wD (i:=14) rfl (by decide +kernel) ?_
    refine qL 0 (v:=.slice _ _ _) rfl rfl rfl rfl ?_
    refine qE (i:=15) rfl (by decide +kernel) (qK (v:=.slice _ _ _) rfl) ?_
    refine qE (i:=16) rfl (by decide +kernel) (wK rfl i1 rfl rfl rfl (by simp) (by simp)) ?_
    refine wD (i:=17) rfl (by decide +kernel) ?_
    refine zH rfl rfl rfl rfl ((j1.ext (Ext.refl _))) ?_
    refine wZ (i:=9) rfl (by decide +kernel) ?_
    refine wG (zc:=[_, _]) (vs:=[(0, .agg #[.int .i64 _, .int .i64 _])]) (cs:=[_, _]) rfl rfl rfl rfl rfl rfl rfl fun b50 hb50 => ?_
    refine ⟨vL hb50 _, ?_⟩
    refine wJ [_, _, _, _, _, _] rfl ?_
    refine wZ (i:=10) rfl (by decide +kernel) ?_
    refine zE 1 AS.h rfl rfl rfl (fun V => rdP V (i:=5) rfl) rfl rfl rfl rfl rfl rfl rfl rfl rfl (by omega) rfl (by rw [wO (m:=2) (fun _ _ => rfl)]; simp only [List.length_cons, List.length_nil]; omega) fun a2 h1a E1a ha2 => ?_
    refine ⟨zJ E1a _, ?_⟩
    refine wJ [_, _, _, _, _, _] rfl ?_
    refine wZ (i:=18) rfl (by decide +kernel) ?_
    refine wG (zc:=[_, _]) (vs:=[(0, .agg #[.int .i64 _, .int .i64 _])]) (cs:=[_, _]) rfl rfl rfl rfl rfl rfl rfl fun b59 hb59 => ?_
    refine ⟨vL hb59 _, ?_⟩
    refine wJ [_, _, _, _, _, _, _] rfl ?_
    refine wU (i:=19) rfl (by decide +kernel) (by decide +kernel) ?_
    refine zE 2 AS.d rfl rfl rfl (fun V => rdP V (i:=6) rfl) rfl rfl rfl rfl rfl rfl rfl rfl rfl (by omega) rfl (by rw [wO (m:=2) (fun _ _ => rfl)]; simp only [List.length_cons, List.length_nil]; omega) fun a3 h2a E2a ha3 => ?_
    refine wJ [_, _, _, _, _, _, _] rfl ?_
    refine qE (i:=20) rfl (by decide +kernel) (wL (v:=.pointer (some ⟨bm, 0, none⟩)) rfl) ?_
    refine qE (i:=21) rfl (by decide +kernel) (qD rfl rfl rfl rfl 0 rfl) ?_
    refine wU (i:=22) rfl (by decide +kernel) (by decide +kernel) ?_
    refine qS 0 (v:=.slice _ _ _) (vs:=[_]) (c':=[_, _, _, _]) rfl rfl rfl rfl rfl rfl rfl rfl rfl ?_
    refine wJ [_, _, _, _, _, _, _] rfl ?_
    refine qE (i:=23) rfl (by decide +kernel) (wL (v:=.pointer (some ⟨bm, 0, none⟩)) rfl) ?_
    refine qE (i:=24) rfl (by decide +kernel) (qD rfl rfl rfl rfl 1 rfl) ?_
    refine wU (i:=25) rfl (by decide +kernel) (by decide +kernel) ?_
    refine qS 0 (v:=.slice _ _ _) (vs:=[_]) (c':=[_, _, _, _]) rfl rfl rfl rfl rfl rfl rfl rfl rfl ?_
    refine wJ [_, _, _, _, _, _, _] rfl ?_
    refine zB rfl ?_
    refine qC (qA rfl ?_)
    refine asB rfl ?_
    refine qQ ?_
    refine qJ (vs:=[_]) Tryz.results36 ⟨qG rfl rfl, trivial⟩ fun V => ?_
    obtain ⟨h10, E10, e10, V10⟩ := yY [_, _] [_, _, _, _, _] V
    exact ⟨h10, _, e10, V10, kX (kX (kX E2 E1a) E2a) E10, by rw [hyes]; rfl, ⟨a2, a3, x.aJ, x.aR⟩, rfl, fun s' e => by rw [hyes] at e; cases e; exact ⟨by show AccR _ 2 ((s.heats ++ [_]).flatMap rgC) a2; rw [List.flatMap_append]; exact ha2, by show AccR _ 2 ((s.damps ++ [_]).flatMap rgC) a3; rw [List.flatMap_append]; exact ha3, AS.j, AS.r⟩⟩
 skip
 have hw1' : ¬ w = weekB := of_decide_eq_false hw1
 refine zU [65, 66, 67] 5 (α:=Unit) (fun u => [(65, .bool (decide (w = waxB ∨ w = leatherB)))]) (fun u L => L) (fun u h_u => True) ?_ ?_
 ·skip
  refine qC (qA rfl ?_)
  refine qB (yE rfl rfl) ?_
  refine asB rfl ?_
  refine qP rfl (fun q1 => ?_) (fun q1 => ?_)
  ·skip
   have q1' : w = waxB := of_decide_eq_true q1
   refine qM ?_
   refine ⟨(), ⟨(by show Value.bool _ = _; rw [q1, decide_eq_true (.inl q1')]), trivial⟩, rfl, rfl, (Ext.refl _), fun h3 E3 => by first | trivial | omega | (refine ⟨?_, ?_⟩ <;> omega), ?_⟩
   repeat (first | exact wQ _ _ | exact qV _ _ _ | refine qX (by decide) ?_ | refine qU rfl ?_ | refine qY rfl ?_)
  skip
  have q1' : ¬ w = waxB := of_decide_eq_false q1
  refine qA rfl ?_
  refine qB (yE rfl rfl) ?_
  refine asB rfl ?_
  refine ⟨(), ⟨(by show Value.bool (decide (w = leatherB)) = _; congr 1; by_cases q2 : w = leatherB <;> simp [q1', q2]), trivial⟩, rfl, rfl, (Ext.refl _), fun h3 E3 => by first | trivial | omega | (refine ⟨?_, ?_⟩ <;> omega), ?_⟩
  repeat (first | exact wQ _ _ | exact qV _ _ _ | refine qX (by decide) ?_ | refine qU rfl ?_ | refine qY rfl ?_)
 rintro u T3 h_u E_u J_u
 refine qR [_, _, _, _, _] rfl ?_
 refine qP rfl (fun hx => ?_) (fun hx => ?_)
 ·skip
  have hx' : w = waxB ∨ w = leatherB := of_decide_eq_true hx
  have htk : takeX s w ws = (jointR (if w = leatherB then 2 else 1) ws).bind fun j => if s.reports.length > 0 then none else some (putJ s j) := by unfold takeX; rw [if_neg hw1', if_pos hx']
  refine qC (qA rfl ?_)
  refine mvS rfl ?_
  refine qB (pv_sliceLoS (m:=1) 1 (l':=ws.length) (c':=cW - 1) (A':=if cW = 1 then AW else AW.map (·.add (1 * 1))) rfl rfl rfl rfl rfl (by omega) (by omega) rfl (by omega) rfl) ?_
  refine wI (caps:=[]) (vs:=[.slice _ _ _, .int .i64 _]) rfl rfl rfl (toRanges_ok ws 4 _ _ h_u (RT.ext E_u) (fun y hy => hwn y (by simp [hy])) (by omega) (by decide)) ?_
  rintro _ h2 E2 ⟨A2, n2, c2, rfl, hR⟩
  refine qB (qK (v:=.tuple #[.slice _ _ _, .bool _]) rfl) ?_
  refine qB (wL (v:=.slice _ _ _) rfl) ?_
  refine pvB rfl ?_
  refine asS rfl ?_
  refine asB rfl ?_
  refine qC ?_
  cases hq : rangesR 4 ws with
  | none =>
   have hno : takeX s w ws = none := by rw [htk]; unfold jointR; rw [hq]; rfl
   have gA : (!(none : Option (List Rg)).isSome) = true := rfl
   refine qC (qA rfl ?_)
   refine mvB rfl ?_
   refine pvB rfl ?_
   refine mvB rfl ?_
   refine qI rfl gA ?_
   refine qI rfl gA ?_
   refine qI rfl gA ?_
   refine qI rfl gA ?_
   refine qI rfl gA ?_
   refine qI rfl gA ?_
   refine qB (wN rfl gA (v:=.bool _) rfl) ?_
   refine wW rfl (rfl) ?_
   refine qC (qA rfl ?_)
   refine asB rfl ?_
   refine qQ ?_
   refine qJ (vs:=[_]) Tryz.results36 ⟨qG rfl rfl, trivial⟩ fun V => ?_
   exact ⟨_, _, rfl, V, (kX E_u E2), by rw [hno]; rfl, x, rfl, fun s' e => by rw [hno] at e; cases e⟩
  | some l =>
   obtain ⟨rfl, RA⟩ := hR l hq
   have hll : l.length = 4 := by
    unfold rangesR at hq
    split at hq
    ·rename_i hz; rw [kO hq, hz]
    cases hq
   match l, hll with
   | [a, b, c, d], _ =>
    have hjk : jointR (if w = leatherB then 2 else 1) ws = some ⟨if w = leatherB then 2 else 1, a, b, c, d⟩ := by unfold jointR; rw [hq]
    have gA : (!(some [a, b, c, d]).isSome) = false := rfl
    refine qC (qA rfl ?_)
    refine mvB rfl ?_
    refine pvB rfl ?_
    refine mvB rfl ?_
    refine qF rfl gA ?_
    refine qB (qK (v:=.pointer (some ⟨bm, 0, none⟩)) rfl) ?_
    refine qF rfl gA ?_
    refine qB (wL (v:=.pointer (some ⟨bm, 0, none⟩)) rfl) ?_
    refine qF rfl gA ?_
    refine qB (qD rfl rfl rfl rfl 3 rfl) ?_
    refine qF rfl gA ?_
    refine qL 0 (v:=.slice _ _ _) rfl rfl rfl rfl ?_
    refine qF rfl gA ?_
    refine qB (wP rfl rfl) ?_
    refine qF rfl gA ?_
    refine pvB rfl ?_
    refine qB (wM rfl gA (v:=.bool _) rfl) ?_
    refine qP rfl (fun hz => ?_) (fun hz => ?_)
    ·skip
     have hz' : s.reports.length > 0 := by have := of_decide_eq_true hz; omega
     have hno : takeX s w ws = none := by rw [htk, hjk, Option.bind_some, if_pos hz']
     refine qC (qA rfl ?_)
     refine asB rfl ?_
     refine qQ ?_
     refine qJ (vs:=[_]) Tryz.results36 ⟨qG rfl rfl, trivial⟩ fun V => ?_
     exact ⟨_, _, rfl, V, (kX E_u E2), by rw [hno]; rfl, x, rfl, fun s' e => by rw [hno] at e; cases e⟩
    skip
    have hz' : ¬ s.reports.length > 0 := by have := of_decide_eq_false hz; omega
    have hyes : takeX s w ws = some (putJ s ⟨if w = leatherB then 2 else 1, a, b, c, d⟩) := by rw [htk, hjk, Option.bind_some, if_neg hz']
    obtain ⟨p0, o0, i0, j0⟩ := RA.at (by decide) (i:=0) (by simp)
    obtain ⟨p1, o1, i1, j1⟩ := RA.at (by decide) (i:=1) (by simp)
    obtain ⟨p2, o2, i2, j2⟩ := RA.at (by decide) (i:=2) (by simp)
    obtain ⟨p3, o3, i3, j3⟩ := RA.at (by decide) (i:=3) (by simp)
    refine qM ?_
    refine qC ?_
    refine zL [] rfl rfl rfl ?_
    refine qE (i:=0) rfl (by decide +kernel) (qK (v:=.slice _ _ _) rfl) ?_
    refine qE (i:=1) rfl (by decide +kernel) (wK rfl i0 rfl rfl rfl (by simp) (by simp)) ?_
    refine wD (i:=2) rfl (by decide +kernel) ?_
    refine zH rfl rfl rfl rfl (j0) ?_
    refine qE (i:=3) rfl (by decide +kernel) (qK (v:=.slice _ _ _) rfl) ?_
    refine qE (i:=4) rfl (by decide +kernel) (wK rfl i1 rfl rfl rfl (by simp) (by simp)) ?_
    refine wD (i:=5) rfl (by decide +kernel) ?_
    refine zH rfl rfl rfl rfl (j1) ?_
    refine qE (i:=6) rfl (by decide +kernel) (qK (v:=.slice _ _ _) rfl) ?_
    refine qE (i:=7) rfl (by decide +kernel) (wK rfl i2 rfl rfl rfl (by simp) (by simp)) ?_
    refine wD (i:=8) rfl (by decide +kernel) ?_
    refine zH rfl rfl rfl rfl (j2) ?_
    refine qE (i:=9) rfl (by decide +kernel) (qK (v:=.slice _ _ _) rfl) ?_
    refine qE (i:=10) rfl (by decide +kernel) (wK rfl i3 rfl rfl rfl (by simp) (by simp)) ?_
    refine wD (i:=11) rfl (by decide +kernel) ?_
    refine zH rfl rfl rfl rfl (j3) ?_
    refine qE (i:=12) rfl (by decide +kernel) (zD (zc:=[_, _, _, _, _, _, _, _, _]) (vs:=[(0, .int .i64 _), (1, .agg #[.int .i64 _, .int .i64 _]), (2, .agg #[.int .i64 _, .int .i64 _]), (3, .agg #[.int .i64 _, .int .i64 _]), (4, .agg #[.int .i64 _, .int .i64 _])]) (cs:=[_, _, _, _, _, _, _, _, _]) rfl rfl rfl rfl rfl rfl) ?_
    refine wZ (i:=13) rfl (by decide +kernel) ?_
    refine wT (cs:=[_, _, _, _, _, _, _, _, _]) rfl rfl fun b9 hb9 => ?_
    refine ⟨yK hb9 _, ?_⟩
    refine wJ [_, _, _, _, _, _] rfl ?_
    refine wU (i:=14) rfl (by decide +kernel) (by decide +kernel) ?_
    refine qS 5 (v:=.agg #[.int .i64 _, .int .i64 _, .int .i64 _, .int .i64 _, .int .i64 _, .int .i64 _, .int .i64 _, .int .i64 _, .int .i64 _]) (vs:=[_, _, _, _, _, _, _, _, _]) (c':=[_, _, _, _, _, _, _, _, _]) rfl rfl rfl rfl rfl rfl rfl rfl rfl ?_
    refine wJ [_, _, _, _, _, _] rfl ?_
    refine zB rfl ?_
    refine qC (qC (qA rfl ?_))
    refine mvS rfl ?_
    refine qB (wK rfl hA0 rfl rfl rfl (by simp) (by rw [hwl2]; push_cast; omega)) ?_
    refine wX (v:=.string (bs w)) rfl rfl ((hc0.ext (kX E_u E2)) 0 _ rfl) ?_
    refine qB (yE rfl rfl) ?_
    refine qP rfl (fun q2 => ?_) (fun q2 => ?_)
    ·skip
     have q2' : w = leatherB := of_decide_eq_true q2
     have hkd : (if w = leatherB then (2 : Int) else 1) = 2 := if_pos q2'
     rw [hkd] at hyes
     refine qA rfl ?_
     refine qB (qD rfl rfl rfl rfl 0 rfl) ?_
     refine qS 5 (v:=.int .i64 _) (vs:=[_]) (c':=[_, _, _, _, _, _, _, _, _]) rfl rfl rfl rfl rfl rfl rfl rfl rfl ?_
     refine qH [_, _, _, _, _, _] rfl ?_
     refine qC ?_
     refine zL [] rfl rfl rfl ?_
     refine qE (i:=0) rfl (by decide +kernel) (qK (v:=.pointer (some ⟨bm, 0, none⟩)) rfl) ?_
     refine qE (i:=1) rfl (by decide +kernel) (qK (v:=.pointer (some ⟨bm, 0, none⟩)) rfl) ?_
     refine qE (i:=2) rfl (by decide +kernel) (wL (v:=.pointer (some ⟨bm, 0, none⟩)) rfl) ?_
     refine qE (i:=3) rfl (by decide +kernel) (qD rfl rfl rfl rfl 2 rfl) ?_
     refine wD (i:=4) rfl (by decide +kernel) ?_
     refine qL 0 (v:=.slice _ _ _) rfl rfl rfl rfl ?_
     refine wD (i:=5) rfl (by decide +kernel) ?_
     refine qZ 5 (vs:=[.int .i64 _, .int .i64 _, .int .i64 _, .int .i64 _, .int .i64 _, .int .i64 _, .int .i64 _, .int .i64 _, .int .i64 _]) rfl rfl rfl rfl rfl ?_
     refine wZ (i:=6) rfl (by decide +kernel) ?_
     refine wG (zc:=[_, _, _, _, _, _, _, _, _]) (vs:=[(0, .agg #[.int .i64 _, .int .i64 _, .int .i64 _, .int .i64 _, .int .i64 _, .int .i64 _, .int .i64 _, .int .i64 _, .int .i64 _])]) (cs:=[_, _, _, _, _, _, _, _, _]) rfl rfl rfl rfl rfl rfl rfl fun b108 hb108 => ?_
     refine ⟨yK hb108 _, ?_⟩
     refine wJ [_, _, _, _, _, _, _] rfl ?_
     refine wU (i:=7) rfl (by decide +kernel) (by decide +kernel) ?_
     refine zE 3 AS.j rfl rfl rfl (fun V => rdP V (i:=6) rfl) rfl rfl rfl rfl rfl rfl rfl rfl rfl (by omega) rfl (by rw [wO (m:=9) (fun _ _ => rfl)]; simp only [List.length_cons, List.length_nil]; omega) fun a2 h4a E4a ha2 => ?_
     refine wJ [_, _, _, _, _, _, _] rfl ?_
     refine qE (i:=8) rfl (by decide +kernel) (wL (v:=.pointer (some ⟨bm, 0, none⟩)) rfl) ?_
     refine qE (i:=9) rfl (by decide +kernel) (qD rfl rfl rfl rfl 2 rfl) ?_
     refine wU (i:=10) rfl (by decide +kernel) (by decide +kernel) ?_
     refine qS 0 (v:=.slice _ _ _) (vs:=[_]) (c':=[_, _, _, _]) rfl rfl rfl rfl rfl rfl rfl rfl rfl ?_
     refine wJ [_, _, _, _, _, _, _] rfl ?_
     refine zB rfl ?_
     refine qC (qA rfl ?_)
     refine asB rfl ?_
     refine qQ ?_
     refine qJ (vs:=[_]) Tryz.results36 ⟨qG rfl rfl, trivial⟩ fun V => ?_
     obtain ⟨h10, E10, e10, V10⟩ := yY [_, _] [_, _, _, _, _] V
     exact ⟨h10, _, e10, V10, kX (kX (kX E_u E2) E4a) E10, by rw [hyes]; rfl, ⟨x.aH, x.aD, a2, x.aR⟩, rfl, fun s' e => by rw [hyes] at e; cases e; exact ⟨AS.h, AS.d, by show AccR _ 9 ((s.joints ++ [_]).flatMap jointC) a2; rw [List.flatMap_append]; exact ha2, AS.r⟩⟩
    skip
    have q2' : ¬ w = leatherB := of_decide_eq_false q2
    have hkd : (if w = leatherB then (2 : Int) else 1) = 1 := if_neg q2'
    rw [hkd] at hyes
    refine qM ?_
    refine qC ?_
    refine zL [] rfl rfl rfl ?_
    refine qE (i:=0) rfl (by decide +kernel) (qK (v:=.pointer (some ⟨bm, 0, none⟩)) rfl) ?_
    refine qE (i:=1) rfl (by decide +kernel) (qK (v:=.pointer (some ⟨bm, 0, none⟩)) rfl) ?_
    refine qE (i:=2) rfl (by decide +kernel) (wL (v:=.pointer (some ⟨bm, 0, none⟩)) rfl) ?_
    refine qE (i:=3) rfl (by decide +kernel) (qD rfl rfl rfl rfl 2 rfl) ?_
    refine wD (i:=4) rfl (by decide +kernel) ?_
    refine qL 0 (v:=.slice _ _ _) rfl rfl rfl rfl ?_
    refine wD (i:=5) rfl (by decide +kernel) ?_
    refine qZ 5 (vs:=[.int .i64 _, .int .i64 _, .int .i64 _, .int .i64 _, .int .i64 _, .int .i64 _, .int .i64 _, .int .i64 _, .int .i64 _]) rfl rfl rfl rfl rfl ?_
    refine wZ (i:=6) rfl (by decide +kernel) ?_
    refine wG (zc:=[_, _, _, _, _, _, _, _, _]) (vs:=[(0, .agg #[.int .i64 _, .int .i64 _, .int .i64 _, .int .i64 _, .int .i64 _, .int .i64 _, .int .i64 _, .int .i64 _, .int .i64 _])]) (cs:=[_, _, _, _, _, _, _, _, _]) rfl rfl rfl rfl rfl rfl rfl fun b108_1 hb108_1 => ?_
    refine ⟨yK hb108_1 _, ?_⟩
    refine wJ [_, _, _, _, _, _, _] rfl ?_
    refine wU (i:=7) rfl (by decide +kernel) (by decide +kernel) ?_
    refine zE 3 AS.j rfl rfl rfl (fun V => rdP V (i:=6) rfl) rfl rfl rfl rfl rfl rfl rfl rfl rfl (by omega) rfl (by rw [wO (m:=9) (fun _ _ => rfl)]; simp only [List.length_cons, List.length_nil]; omega) fun a2 h5a E5a ha2 => ?_
    refine wJ [_, _, _, _, _, _, _] rfl ?_
    refine qE (i:=8) rfl (by decide +kernel) (wL (v:=.pointer (some ⟨bm, 0, none⟩)) rfl) ?_
    refine qE (i:=9) rfl (by decide +kernel) (qD rfl rfl rfl rfl 2 rfl) ?_
    refine wU (i:=10) rfl (by decide +kernel) (by decide +kernel) ?_
    refine qS 0 (v:=.slice _ _ _) (vs:=[_]) (c':=[_, _, _, _]) rfl rfl rfl rfl rfl rfl rfl rfl rfl ?_
    refine wJ [_, _, _, _, _, _, _] rfl ?_
    refine zB rfl ?_
    refine qC (qA rfl ?_)
    refine asB rfl ?_
    refine qQ ?_
    refine qJ (vs:=[_]) Tryz.results36 ⟨qG rfl rfl, trivial⟩ fun V => ?_
    obtain ⟨h10, E10, e10, V10⟩ := yY [_, _] [_, _, _, _, _] V
    exact ⟨h10, _, e10, V10, kX (kX (kX E_u E2) E5a) E10, by rw [hyes]; rfl, ⟨x.aH, x.aD, a2, x.aR⟩, rfl, fun s' e => by rw [hyes] at e; cases e; exact ⟨AS.h, AS.d, by show AccR _ 9 ((s.joints ++ [_]).flatMap jointC) a2; rw [List.flatMap_append]; exact ha2, AS.r⟩⟩
 skip
 have hx' : ¬ (w = waxB ∨ w = leatherB) := of_decide_eq_false hx
 refine qC (qA rfl ?_)
 refine qB (yE rfl rfl) ?_
 refine asB rfl ?_
 refine qP rfl (fun hs => ?_) (fun hs => ?_)
 ·skip
  have hs' : w = seenB := of_decide_eq_true hs
  have htk : takeX s w ws = (seenR ws).map fun r => putR s r := by unfold takeX; rw [if_neg hw1', if_neg hx', if_pos hs']
  refine qC ?_
  refine zU [114, 115, 116, 117, 118, 119, 120, 121, 122, 123, 124, 125, 126, 127, 128] 5 (α:=Unit) (fun u3 => [(128, .bool (seenBad ws))]) (fun u3 L => L) (fun u3 h_u3 => True) ?_ ?_
  ·skip
   by_cases h3 : ws.length = 3
   ·obtain ⟨a, b, f, hwsf⟩ : ∃ a b f, ws = [a, b, f] := by
     match ws, h3 with
     | [a, b, f], _ => exact ⟨a, b, f, rfl⟩
    subst hwsf
    obtain ⟨g3, f3, hA3, hc3⟩ := RW.at (by decide) (i:=3) (by simp)
    have gA : ((([w, a, b, f].length : Nat) : Int) != 4) = false := rfl
    refine qA rfl ?_
    refine mvS rfl ?_
    refine qB (wP rfl rfl) ?_
    refine pvB rfl ?_
    refine mvB rfl ?_
    refine qF rfl gA ?_
    refine mvS rfl ?_
    refine qF rfl gA ?_
    refine qB (wK rfl hA3 rfl rfl rfl (by simp) (by simp)) ?_
    refine qF rfl gA ?_
    refine wX (v:=.string (bs f)) rfl rfl ((hc3.ext E_u) 0 _ rfl) ?_
    by_cases hf : f = failedB
    ·have gB : (!decide (f = failedB)) = false := by rw [decide_eq_true hf]; rfl
     have hbd : seenBad [a, b, f] = false := by unfold seenBad; simp [hf]
     refine qF rfl gA ?_
     refine qB (kE rfl rfl) ?_
     refine qF rfl gA ?_
     refine mvB rfl ?_
     refine qI rfl gB ?_
     refine qI rfl gB ?_
     refine qI rfl gB ?_
     refine qI rfl gB ?_
     refine qF rfl gA ?_
     refine qB (wM rfl gB (v:=.bool _) rfl) ?_
     refine qB (wM rfl gA (v:=.bool _) rfl) ?_
     refine ⟨(), ⟨(by rw [hbd]; rfl), trivial⟩, rfl, rfl, (Ext.refl _), fun h3 E3 => by first | trivial | omega | (refine ⟨?_, ?_⟩ <;> omega), ?_⟩
     repeat (first | exact wQ _ _ | exact qV _ _ _ | refine qX (by decide) ?_ | refine qU rfl ?_ | refine qY rfl ?_)
    skip
    have gB : (!decide (f = failedB)) = true := by rw [decide_eq_false hf]; rfl
    refine qF rfl gA ?_
    refine qB (kE rfl rfl) ?_
    refine qF rfl gA ?_
    refine mvB rfl ?_
    refine qF rfl gB ?_
    refine mvS rfl ?_
    refine qF rfl gB ?_
    refine qB (wK rfl hA3 rfl rfl rfl (by simp) (by simp)) ?_
    refine qF rfl gB ?_
    refine wX (v:=.string (bs f)) rfl rfl ((hc3.ext E_u) 0 _ rfl) ?_
    refine qF rfl gB ?_
    refine qB (kE rfl rfl) ?_
    refine qF rfl gA ?_
    refine qB (wN rfl gB (v:=.bool _) rfl) ?_
    refine qB (wM rfl gA (v:=.bool _) rfl) ?_
    have hbd : seenBad [a, b, f] = !decide (f = wholeB) := by unfold seenBad; simp [hf]
    refine ⟨(), ⟨(by rw [hbd]; rfl), trivial⟩, rfl, rfl, (Ext.refl _), fun h3 E3 => by first | trivial | omega | (refine ⟨?_, ?_⟩ <;> omega), ?_⟩
    repeat (first | exact wQ _ _ | exact qV _ _ _ | refine qX (by decide) ?_ | refine qU rfl ?_ | refine qY rfl ?_)
   skip
   have gA : ((((w :: ws).length : Nat) : Int) != 4) = true := by
    have : (((w :: ws).length : Nat) : Int) ≠ 4 := by rw [hwl2]; omega
    simpa using this
   have hbd : seenBad ws = true := by
    unfold seenBad
    split
    ·exact absurd rfl h3
    rfl
   refine qA rfl ?_
   refine mvS rfl ?_
   refine qB (wP rfl rfl) ?_
   refine pvB rfl ?_
   refine mvB rfl ?_
   refine qI rfl gA ?_
   refine qI rfl gA ?_
   refine qI rfl gA ?_
   refine qI rfl gA ?_
   refine qI rfl gA ?_
   refine zG rfl ?_
   refine zG rfl ?_
   refine zG rfl ?_
   refine zG rfl ?_
   refine qI rfl gA ?_
   refine qB (wN rfl gA (v:=.bool _) rfl) ?_
   refine ⟨(), ⟨(by rw [hbd]; rfl), trivial⟩, rfl, rfl, (Ext.refl _), fun h3 E3 => by first | trivial | omega | (refine ⟨?_, ?_⟩ <;> omega), ?_⟩
   repeat (first | exact wQ _ _ | exact qV _ _ _ | refine qX (by decide) ?_ | refine qU rfl ?_ | refine qY rfl ?_)
  rintro u3 T6 h_u3 E_u3 J_u3
  refine qR [_, _, _, _, _] rfl ?_
  refine qP rfl (fun hbad => ?_) (fun hbad => ?_)
  ·skip
   have hno : seenR ws = none := seenBad_none hbad
   rw [hno] at htk
   refine qC (qA rfl ?_)
   refine asB rfl ?_
   refine qQ ?_
   refine qJ (vs:=[_]) Tryz.results36 ⟨qG rfl rfl, trivial⟩ fun V => ?_
   exact ⟨_, _, rfl, V, (kX E_u E_u3), by rw [htk]; rfl, x, rfl, fun s' e => by rw [htk] at e; cases e⟩
  skip
  obtain ⟨a, b, f, rfl, hf⟩ := seenBad_some hbad
  have hsr : seenR [a, b, f] = (numS a).bind fun x => (numS b).map fun y => ⟨x, y, decide (f = failedB)⟩ := by unfold seenR; exact if_pos hf
  obtain ⟨g1, f1, hA1, hc1⟩ := RW.at (by decide) (i:=1) (by simp)
  obtain ⟨g2, f2, hA2, hc2⟩ := RW.at (by decide) (i:=2) (by simp)
  obtain ⟨g3, f3, hA3, hc3⟩ := RW.at (by decide) (i:=3) (by simp)
  refine qM ?_
  refine qC (qA rfl ?_)
  refine mvS rfl ?_
  refine qB (wK rfl hA1 rfl rfl rfl (by simp) (by simp)) ?_
  refine wX (v:=.string (bs a)) rfl rfl ((hc1.ext (kX E_u E_u3)) 0 _ rfl) ?_
  refine wI (caps:=[]) (vs:=[.string _]) rfl rfl rfl (numberR_ok a h_u3) ?_
  rintro _ h3 E3 ⟨n1, rfl, hN1⟩
  refine qB (qK (v:=.tuple #[.int .i64 _, .bool _]) rfl) ?_
  refine qB (wL (v:=.int .i64 _) rfl) ?_
  refine pvB rfl ?_
  refine asI rfl ?_
  refine asB rfl ?_
  refine qC (qA rfl ?_)
  refine mvS rfl ?_
  refine qB (wK rfl hA2 rfl rfl rfl (by simp) (by simp)) ?_
  refine wX (v:=.string (bs b)) rfl rfl ((hc2.ext (kX (kX E_u E_u3) E3)) 0 _ rfl) ?_
  refine wI (caps:=[]) (vs:=[.string _]) rfl rfl rfl (numberR_ok b h3) ?_
  rintro _ h4 E4 ⟨n2, rfl, hN2⟩
  refine qB (qK (v:=.tuple #[.int .i64 _, .bool _]) rfl) ?_
  refine qB (wL (v:=.int .i64 _) rfl) ?_
  refine pvB rfl ?_
  refine asI rfl ?_
  refine asB rfl ?_
  refine qC ?_
  refine zL [] rfl rfl rfl ?_
  refine qE (i:=0) rfl (by decide +kernel) (qK (v:=.pointer (some ⟨bm, 0, none⟩)) rfl) ?_
  refine qE (i:=1) rfl (by decide +kernel) (qK (v:=.pointer (some ⟨bm, 0, none⟩)) rfl) ?_
  refine qE (i:=2) rfl (by decide +kernel) (wL (v:=.pointer (some ⟨bm, 0, none⟩)) rfl) ?_
  refine qE (i:=3) rfl (by decide +kernel) (qD rfl rfl rfl rfl 3 rfl) ?_
  refine wD (i:=4) rfl (by decide +kernel) ?_
  refine qL 0 (v:=.slice _ _ _) rfl rfl rfl rfl ?_
  refine qE (i:=5) rfl (by decide +kernel) (qK (v:=.int .i64 _) rfl) ?_
  refine qE (i:=6) rfl (by decide +kernel) (qK (v:=.int .i64 _) rfl) ?_
  refine qE (i:=7) rfl (by decide +kernel) (qK (v:=.slice _ _ _) rfl) ?_
  refine qE (i:=8) rfl (by decide +kernel) (wK rfl hA3 rfl rfl rfl (by simp) (by simp)) ?_
  refine wD (i:=9) rfl (by decide +kernel) ?_
  refine wX (v:=.string (bs f)) rfl rfl ((hc3.ext (kX (kX (kX E_u E_u3) E3) E4)) 0 _ rfl) ?_
  refine qE (i:=10) rfl (by decide +kernel) (yE rfl rfl) ?_
  refine qE (i:=11) rfl (by decide +kernel) (zD (zc:=[_, _, _]) (vs:=[(0, .int .i64 _), (1, .int .i64 _), (2, .bool _)]) (cs:=[_, _, _]) rfl rfl rfl rfl rfl rfl) ?_
  refine wZ (i:=12) rfl (by decide +kernel) ?_
  refine wG (zc:=[_, _, _]) (vs:=[(0, .agg #[.int .i64 _, .int .i64 _, .bool _])]) (cs:=[_, _, _]) rfl rfl rfl rfl rfl rfl rfl fun b155 hb155 => ?_
  refine ⟨yK hb155 _, ?_⟩
  refine wJ [_, _, _, _, _, _] rfl ?_
  refine wU (i:=13) rfl (by decide +kernel) (by decide +kernel) ?_
  refine zE 4 AS.r rfl rfl rfl (fun V => rdP V (i:=5) rfl) rfl rfl rfl rfl rfl rfl rfl rfl rfl (by omega) rfl (by rw [wO (m:=3) (fun _ _ => rfl)]; simp only [List.length_cons, List.length_nil]; omega) fun a2 h7a E7a ha2 => ?_
  refine wJ [_, _, _, _, _, _] rfl ?_
  refine qE (i:=14) rfl (by decide +kernel) (wL (v:=.pointer (some ⟨bm, 0, none⟩)) rfl) ?_
  refine qE (i:=15) rfl (by decide +kernel) (qD rfl rfl rfl rfl 3 rfl) ?_
  refine wU (i:=16) rfl (by decide +kernel) (by decide +kernel) ?_
  refine qS 0 (v:=.slice _ _ _) (vs:=[_]) (c':=[_, _, _, _]) rfl rfl rfl rfl rfl rfl rfl rfl rfl ?_
  refine wJ [_, _, _, _, _, _] rfl ?_
  refine zB rfl ?_
  cases q1 : numS a with
  | none =>
   have hno : takeX s w [a, b, f] = none := by rw [htk, hsr, q1]; rfl
   have gA : (none : Option Int).isSome = false := rfl
   refine qC (qA rfl ?_)
   refine mvB rfl ?_
   refine mvB rfl ?_
   refine qI rfl gA ?_
   refine qB (wM rfl gA (v:=.bool _) rfl) ?_
   refine asB rfl ?_
   refine qQ ?_
   refine qJ (vs:=[_]) Tryz.results36 ⟨qG rfl rfl, trivial⟩ fun V => ?_
   obtain ⟨h10, E10, e10, V10⟩ := yY [_] [_, _, _, _, _] V
   exact ⟨h10, _, e10, V10, kX (kX (kX (kX (kX E_u E_u3) E3) E4) E7a) E10, by rw [hno]; rfl, ⟨x.aH, x.aD, x.aJ, a2⟩, rfl, fun s' e => by rw [hno] at e; cases e⟩
  | some m1 =>
   have e1 := hN1 m1 q1
   subst e1
   have htk2 : takeX s w [a, b, f] = (numS b).map fun y => putR s ⟨n1, y, decide (f = failedB)⟩ := by rw [htk, hsr, q1]; cases numS b <;> rfl
   have gA : (some n1).isSome = true := rfl
   refine qC (qA rfl ?_)
   refine mvB rfl ?_
   refine mvB rfl ?_
   refine qF rfl gA ?_
   refine mvB rfl ?_
   refine qB (wN rfl gA (v:=.bool _) rfl) ?_
   refine asB rfl ?_
   refine qQ ?_
   refine qJ (vs:=[_]) Tryz.results36 ⟨qG rfl rfl, trivial⟩ fun V => ?_
   obtain ⟨h10, E10, e10, V10⟩ := yY [_] [_, _, _, _, _] V
   refine ⟨h10, _, e10, V10, kX (kX (kX (kX (kX E_u E_u3) E3) E4) E7a) E10, by rw [htk2]; cases numS b <;> rfl, ⟨x.aH, x.aD, x.aJ, a2⟩, rfl, fun s' e => ?_⟩
   rw [htk2] at e
   obtain ⟨m2, q2, rfl⟩ := Option.map_eq_some_iff.1 e
   have e2 := hN2 m2 q2
   subst e2
   exact ⟨AS.h, AS.d, AS.j, by show AccR _ 3 ((s.reports ++ [_]).flatMap seenC) a2; rw [List.flatMap_append]; exact ha2⟩
 skip
 have hs' : ¬ w = seenB := of_decide_eq_false hs
 have hno : takeX s w ws = none := by unfold takeX; rw [if_neg hw1', if_neg hx', if_neg hs']
 refine qM ?_
 refine qC (qA rfl ?_)
 refine asB rfl ?_
 refine qQ ?_
 refine qJ (vs:=[_]) Tryz.results36 ⟨qG rfl rfl, trivial⟩ fun V => ?_
 exact ⟨_, _, rfl, V, E_u, by rw [hno]; rfl, x, rfl, fun s' e => by rw [hno] at e; cases e⟩
end
end Go.Proofs.YtboigjfgpppeaaaGreatDoor
namespace Go.Proofs.YtboigjfgpppeaaaGreatDoor
open Go Go.HL Go.Proofs Go.Wx Go.Rd
section
variable [Lvl]
set_option maxRecDepth 100000
def sacc0 : SAcc := ⟨acc0, acc0, acc0, acc0⟩
theorem lenS_of {s s2 : Season} {t : List UInt8} {p : Int} {k : Nat} (h : lineS s t = some (p, s2)) (LS : LenS s k) : LenS s2 (k + 1) := by
 have a1 := LS.h
 have a2 := LS.d
 have a3 := LS.j
 have a4 := LS.r
 rcases lineS_cases h with ⟨_, x, rfl⟩ | ⟨_, x, rfl⟩ | ⟨_, x, rfl⟩ | ⟨_, rfl⟩ <;> refine ⟨?_, ?_, ?_, ?_⟩ <;> first | omega | (simp only [putW, putJ, putR, List.length_append, List.length_singleton]; omega)
theorem readClo_nil (L : Pv) (h : AH) (Q : Pv → AH → Prop) (q : Q L h) : Clo0 Tryz.prog 9 (bodyOps Tryz.f68) (bodyRest Tryz.f68) 3 .nilIface #[] L h Q := by
 refine ⟨rfl, ?_⟩
 refine clo_run0 ?_
 refine qT ?_
 refine qC (qA rfl ?_)
 refine pvB rfl ?_
 refine wW rfl (rfl) ?_
 refine qA rfl ?_
 refine qB (wA (v:=_) rfl) ?_
 exact ⟨.inl rfl, rfl, q⟩
theorem readClo_pan (p0 p1 p2 p3 p4 : Option (Nat × Obj)) (h : AH) (Q : Pv → AH → Prop)
  (q : ∀ p5, Q [p0, p1, p2, p3, p4, p5] h) : Clo0 Tryz.prog 9 (bodyOps Tryz.f68) (bodyRest Tryz.f68) 3 refV #[] [p0, p1, p2, p3, p4] h Q := by
 refine ⟨rfl, ?_⟩
 obtain ⟨K, hK⟩ : ∃ K : Post, K = (fun e (_ : Sl) D L' h' => (e = .normal ∨ e = .ret) ∧ D = [] ∧ Q L' h') := ⟨_, rfl⟩
 rw [← hK]
 unfold refV
 refine clo_run0 ?_
 refine qT ?_
 refine qC (qA rfl ?_)
 refine pvB rfl ?_
 refine wS rfl (rfl) ?_
 refine qC (qA rfl ?_)
 refine qB (pv_assert (v:=.agg #[]) rfl rfl rfl) ?_
 refine pvB rfl ?_
 refine qB (wL (v:=.agg #[]) rfl) ?_
 refine wW rfl (rfl) ?_
 refine qA rfl ?_
 refine wT (cs:=[]) rfl rfl fun b1 hb1 => ?_
 refine qH [_, _, _, _, _, _] rfl ?_
 refine qS 5 (v:=.agg #[]) (vs:=[]) (c':=[]) rfl rfl rfl rfl rfl rfl rfl rfl rfl ?_
 refine qH [_, _, _, _, _, _] rfl ?_
 rw [hK]
 exact ⟨.inl rfl, rfl, q _⟩
def ReadV0 (h : AH) (t : List UInt8) (v : Value) : Prop := ∃ A0 n0 c0 A1 n1 c1 A2 n2 c2 A3 n3 c3, v = .tuple #[.agg #[.slice A0 n0 c0, .slice A1 n1 c1, .slice A2 n2 c2, .slice A3 n3 c3], .int .i64 (lineN t)] ∧ (lineN t = 0 → SeasonS h (seasN t) (.agg #[.slice A0 n0 c0, .slice A1 n1 c1, .slice A2 n2 c2, .slice A3 n3 c3]) ∧ LenS (seasN t) (2 ^ 18))
theorem readV0_bad {h : AH} {t : List UInt8} {z : Int} (hz : lineN t = z) (h0 : z ≠ 0) {A0 A1 A2 A3 : Option Addr} {n0 n1 n2 n3 c0 c1 c2 c3 : Nat} : ReadV0 h t (.tuple #[.agg #[.slice A0 n0 c0, .slice A1 n1 c1, .slice A2 n2 c2, .slice A3 n3 c3], .int .i64 z]) :=
 ⟨_, _, _, _, _, _, _, _, _, _, _, _, by rw [hz], fun e => absurd (hz.symm.trans e) h0⟩
set_option maxHeartbeats 4000000 in
theorem read_ok (t : List UInt8) (h : AH) (PW : Pow h) (ER : Errs h) (ht : t.length < 2 ^ 17) : FnT Tryz.prog 34 #[.string (bs t)] h (fun v h' => ReadV0 h' t v) := by
 obtain ⟨rows, hrows⟩ : ∃ rows, rows = splitL 10 t := ⟨_, rfl⟩
 have hrl : rows.length = cntB 10 t + 1 := by rw [hrows]; exact yX 10 t
 have hcl := cnt_le 10 t
 have hdl : rows.dropLast.length = rows.length - 1 := List.length_dropLast ..
 have hrn : ∀ r ∈ rows, r.length < 2 ^ 17 := fun r hr => by
  rw [hrows] at hr
  have := split_len r hr
  omega
 refine call_defer0 Tryz.func34 rfl Tryz.ntmps34 rfl (ops0:=bodyOps Tryz.f68) (c2:=bodyRest Tryz.f68) (m:=9) (t:=3) Tryz.func68 (by kernel_rfl) rfl Tryz.ntmps68 rfl rfl rfl rfl rfl rfl ?_
 refine qC (qA rfl ?_)
 refine wT (cs:=[_, _, _, _]) rfl rfl fun b2 hb2 => ?_
 refine qH [_] rfl ?_
 refine asI rfl ?_
 refine qC (qA rfl ?_)
 refine mvT rfl ?_
 refine wI (caps:=[]) (vs:=[.string _, .string _]) rfl rfl rfl (Split_ok t 10 h (by omega)) ?_
 rintro _ h1 E1 ⟨AR, cR, rfl, RR, hcR⟩
 rw [← hrows] at RR hcR ⊢
 refine asS rfl ?_
 refine qC (qA rfl ?_)
 refine mvS rfl ?_
 refine qB (wP rfl rfl) ?_
 refine qB (qO rfl (by omega)) ?_
 refine asI rfl ?_
 refine qC (qA rfl ?_)
 refine asI rfl ?_
 refine qC ?_
 refine xp_regionD rfl rfl ?_
 refine goes_deferF rfl rfl rfl rfl ?_
 refine goes_end ?_
 refine qR [_] rfl ?_
 refine qC (qC (qA rfl ?_))
 refine mvS rfl ?_
 refine mvI rfl ?_
 refine qB (pv_front (k:=rows.length - 1) rfl rfl (by omega) (by omega) rfl rfl) ?_
 refine qB (wP rfl rfl) ?_
 refine mvI rfl ?_
 refine qT ?_
 refine zN ?_
 refine qR [_, _] rfl ?_
 refine zN ?_
 refine qR [_, _, _] rfl ?_
 refine zN ?_
 refine qR [_, _, _, _] rfl ?_
 refine zN ?_
 refine qR [_, _, _, _, _] rfl ?_
 refine yC [3, 6, 7, 8, 9, 19, 20, 21, 22, 23, 24, 25, 26, 27, 28, 29, 30, 31, 32, 33, 34, 35, 36, 37, 38] 5 (α:=Nat × Int × Season × SAcc) (fun ⟨k, b, s, x⟩ => [(19, .int .i64 k), (6, .int .i64 b)]) (fun ⟨k, b, s, x⟩ L => ((((L.set 0 (some (b2, .cells (sCells x).toArray 26 (0, 0)))).set 1 (x.aH.p)).set 2 (x.aD.p)).set 3 (x.aJ.p)).set 4 (x.aR.p)) (fun ⟨k, b, s, x⟩ h_k => k ≤ rows.length - 1 ∧ goS 0 0 s0 rows.dropLast = goS k b s (rows.dropLast.drop k) ∧ AccS s x ∧ LenS s k) (fun ⟨k, b, s, x⟩ => rows.length - 1 - k) ((0, 0, s0, sacc0)) ⟨rfl, rfl, trivial⟩ (rfl) (⟨Nat.zero_le _, rfl, ⟨accR0, accR0, accR0, accR0⟩, ⟨Nat.zero_le _, Nat.zero_le _, Nat.zero_le _, Nat.zero_le _⟩⟩) ?_
 rintro ⟨k, b, s, x⟩ T1 h_k E_k J_k
 refine qR [_, _, _, _, _] rfl ?_
 obtain ⟨K1, K2, KA, KL⟩ := J_k
 refine qC (qA rfl ?_)
 refine pvB rfl ?_
 refine qC ?_
 refine qP rfl (fun hk => ?_) (fun hk => ?_)
 ·skip
  have hkl : k < rows.length - 1 := by have := of_decide_eq_true hk; omega
  have hkr : k < rows.length := by omega
  have hkd : k < rows.dropLast.length := by omega
  have hge : rows.dropLast[k] = rows[k] := List.getElem_dropLast ..
  have hrk := hrn _ (List.getElem_mem hkr)
  rw [List.drop_eq_getElem_cons hkd, hge] at K2
  obtain ⟨g, off, hA, hc⟩ := (RR.ext E_k).at (by decide) hkr
  refine qM ?_
  refine qC ?_
  refine qT ?_
  refine qC (qA rfl ?_)
  refine mvI rfl ?_
  refine qB (wK rfl hA rfl rfl rfl (by omega) (by omega)) ?_
  refine wX (v:=.string _) rfl rfl ((hc) 0 _ rfl) ?_
  refine asI rfl ?_
  refine asT rfl ?_
  refine qC (qA rfl ?_)
  refine mvI rfl ?_
  refine qB (qO rfl (by omega)) ?_
  refine asI rfl ?_
  refine qC (qA rfl ?_)
  refine mvT rfl ?_
  refine op_fnEMM [] [_, _, _, _, _] [] (vs:=[.pointer _, .string _]) rfl rfl rfl (take_ok b2 s x rows[k] k h_k (PW.ext (kX E1 E_k)) (ER.ext (kX E1 E_k)) (by omega) KA KL (by omega)) (fun v h9 M9 E9 q => ?_) ?_
  ·obtain ⟨q0, rfl, x9, rfl⟩ := q
   have hbd := lineN_bad (by rw [← hrows, K2]; exact goS_stop q0)
   exact Exists.intro _ ⟨rfl, readClo_pan _ _ _ _ _ _ _ (fun p5 => doneK_list (vs:=[_, _]) Tryz.results34 ⟨zI 0 rfl rfl rfl rfl rfl (vs:=[.slice _ _ _, .slice _ _ _, .slice _ _ _, .slice _ _ _]) rfl, qG rfl rfl, trivial⟩ (fun V => ⟨kX (kX (kX E1 E_k) E9) (qN V), readV0_bad hbd (by omega)⟩))⟩
  rintro _ h9 M9 E9 ⟨p, s2, hp, rfl, x2, rfl, KA2⟩
  refine qH [_, _, _, _, _] rfl ?_
  have KL2 := lenS_of hp KL
  refine asI rfl ?_
  refine qC ?_
  by_cases hA : p < b
  ·have gA : decide (p < b) = true := decide_eq_true hA
   have hbd := lineN_bad (by rw [← hrows, K2]; exact goS_bad hp (.inl hA))
   refine qC (qA rfl ?_)
   refine mvI rfl ?_
   refine mvI rfl ?_
   refine pvB rfl ?_
   refine mvB rfl ?_
   refine qI rfl gA ?_
   refine qI rfl gA ?_
   refine qB (wN rfl gA (v:=.bool _) rfl) ?_
   refine wW rfl (rfl) ?_
   refine qA rfl ?_
   refine qB (zD (zc:=[]) (vs:=[]) (cs:=[]) rfl rfl rfl rfl rfl rfl) ?_
   refine qB (wL (v:=_) rfl) ?_
   refine kF rfl ?_
   exact Exists.intro _ ⟨rfl, readClo_pan _ _ _ _ _ _ _ (fun p5 => doneK_list (vs:=[_, _]) Tryz.results34 ⟨zI 0 rfl rfl rfl rfl rfl (vs:=[.slice _ _ _, .slice _ _ _, .slice _ _ _, .slice _ _ _]) rfl, qG rfl rfl, trivial⟩ (fun V => ⟨kX (kX (kX E1 E_k) E9) (qN V), readV0_bad hbd (by omega)⟩))⟩
  skip
  have gA : decide (p < b) = false := decide_eq_false hA
  refine qC (qA rfl ?_)
  refine mvI rfl ?_
  refine mvI rfl ?_
  refine pvB rfl ?_
  refine mvB rfl ?_
  refine qF rfl gA ?_
  refine mvI rfl ?_
  refine qF rfl gA ?_
  refine pvB rfl ?_
  refine qB (wM rfl gA (v:=.bool _) rfl) ?_
  refine qP rfl (fun hB => ?_) (fun hB => ?_)
  ·skip
   have hB' : b = 4 := by simpa using hB
   have hbd := lineN_bad (by rw [← hrows, K2]; exact goS_bad hp (.inr hB'))
   refine qA rfl ?_
   refine qB (zD (zc:=[]) (vs:=[]) (cs:=[]) rfl rfl rfl rfl rfl rfl) ?_
   refine qB (wL (v:=_) rfl) ?_
   refine kF rfl ?_
   exact Exists.intro _ ⟨rfl, readClo_pan _ _ _ _ _ _ _ (fun p5 => doneK_list (vs:=[_, _]) Tryz.results34 ⟨zI 0 rfl rfl rfl rfl rfl (vs:=[.slice _ _ _, .slice _ _ _, .slice _ _ _, .slice _ _ _]) rfl, qG rfl rfl, trivial⟩ (fun V => ⟨kX (kX (kX E1 E_k) E9) (qN V), readV0_bad hbd (by omega)⟩))⟩
  skip
  have hB' : ¬ b = 4 := by simpa using hB
  refine qM ?_
  refine qA rfl ?_
  refine mvI rfl ?_
  refine asI rfl ?_
  refine qA rfl ?_
  refine qB (qO rfl (by omega)) ?_
  refine mvI rfl ?_
  refine ⟨(k + 1, p, s2, x2), ⟨rfl, rfl, trivial⟩, rfl, rfl, (kX E_k E9), fun h3 E3 => ⟨by omega, by rw [K2]; exact goS_next hp (by rintro (q | q); exact hA q; exact hB' q), KA2, KL2⟩, by first | omega | (dsimp only; omega), ?_⟩
  repeat (first | exact qV _ _ _ | refine qX (by decide) ?_ | refine qU rfl ?_ | refine qY rfl ?_)
 skip
 have hke : k = rows.length - 1 := by have := of_decide_eq_false hk; omega
 subst hke
 have hdr : rows.dropLast.drop (rows.length - 1) = [] := List.drop_eq_nil_of_le (by omega)
 rw [hdr] at K2
 have hgo : goS 0 0 s0 (splitL 10 t).dropLast = (0, b, s) := by rw [← hrows, K2]; rfl
 have hnl : rows.length - 1 < rows.length := by omega
 have hgl : (splitL 10 t).getLast? = some rows[rows.length - 1] := by rw [← hrows, List.getLast?_eq_getElem?, List.getElem?_eq_getElem hnl]
 obtain ⟨g, off, hA, hc⟩ := (RR.ext E_k).at (by decide) hnl
 refine wV ?_
 refine qC (qA rfl ?_)
 refine mvI rfl ?_
 refine qB (qO rfl (by omega)) ?_
 refine asI rfl ?_
 refine qC ?_
 by_cases hb4 : b = 4
 ·have gA : (b != 4) = false := by simpa using hb4
  refine qC (qA rfl ?_)
  refine mvI rfl ?_
  refine pvB rfl ?_
  refine mvB rfl ?_
  refine qF rfl gA ?_
  refine mvS rfl ?_
  refine qF rfl gA ?_
  refine mvI rfl ?_
  refine qF rfl gA ?_
  refine qB (wK rfl hA rfl rfl rfl (by omega) (by omega)) ?_
  refine qF rfl gA ?_
  refine wX (v:=.string (bs rows[rows.length - 1])) rfl rfl (by rw [show ((rows.length : Int) - 1).toNat = rows.length - 1 by omega]; exact hc 0 _ rfl) ?_
  refine qF rfl gA ?_
  refine qB (kE rfl rfl) ?_
  refine qB (wM rfl gA (v:=.bool _) rfl) ?_
  refine qP rfl (fun hE => ?_) (fun hE => ?_)
  ·skip
   have hE' : ¬ rows[rows.length - 1] = [] := by simpa using hE
   have hbd := lineN_end hgo (.inr (by rw [hgl]; intro e; exact hE' (Option.some.inj e)))
   rw [← hrows] at hbd
   refine qA rfl ?_
   refine qB (zD (zc:=[]) (vs:=[]) (cs:=[]) rfl rfl rfl rfl rfl rfl) ?_
   refine qB (wL (v:=_) rfl) ?_
   refine kF rfl ?_
   exact Exists.intro _ ⟨rfl, readClo_pan _ _ _ _ _ _ _ (fun p5 => doneK_list (vs:=[_, _]) Tryz.results34 ⟨zI 0 rfl rfl rfl rfl rfl (vs:=[.slice _ _ _, .slice _ _ _, .slice _ _ _, .slice _ _ _]) rfl, qG rfl rfl, trivial⟩ (fun V => ⟨kX (kX E1 E_k) (qN V), readV0_bad (z:=(rows.length : Int) - 1 + 1) (by rw [hbd]; omega) (by omega)⟩))⟩
  skip
  have hE' : rows[rows.length - 1] = [] := by simpa using hE
  have hok : ¬ (b ≠ 4 ∨ (splitL 10 t).getLast? ≠ some []) := by
   rintro (h | h)
   ·exact h hb4
   exact h (by rw [hgl, hE'])
  obtain ⟨hz1, hz2⟩ := lineN_ok hgo hok
  obtain ⟨⟨pH, AH, nH, cH⟩, ⟨pD, AD, nD, cD⟩, ⟨pJ, AJ, nJ, cJ⟩, ⟨pR, AR2, nR, cR2⟩⟩ := x
  obtain ⟨kH, kD, kJ, kR⟩ := KA
  obtain rfl : nH = s.heats.length := by have := AccR.len kH; rw [wO (m:=2) (fun _ _ => rfl)] at this; dsimp only at this; omega
  obtain rfl : nD = s.damps.length := by have := AccR.len kD; rw [wO (m:=2) (fun _ _ => rfl)] at this; dsimp only at this; omega
  obtain rfl : nJ = s.joints.length := by have := AccR.len kJ; rw [wO (m:=9) (fun _ _ => rfl)] at this; dsimp only at this; omega
  obtain rfl : nR = s.reports.length := by have := AccR.len kR; rw [wO (m:=3) (fun _ _ => rfl)] at this; dsimp only at this; omega
  dsimp only at *
  refine yD 1 rfl ?_
  intro gH GH PH
  refine qR [_, _, _, _, _] rfl ?_
  refine yD 2 rfl ?_
  intro gD GD PD
  refine qR [_, _, _, _, _] rfl ?_
  refine yD 3 rfl ?_
  intro gJ GJ PJ
  refine qR [_, _, _, _, _] rfl ?_
  refine yD 4 rfl ?_
  intro gR GR PR
  refine qR [_, _, _, _, _] rfl ?_
  have RM : SeasonR gR AH AD AJ AR2 s := ⟨⟨fun _ _ => rfl, (AccR.rd kH PH).ext (kX (kX GD GJ) GR)⟩, ⟨fun _ _ => rfl, (AccR.rd kD PD).ext (kX GJ GR)⟩, ⟨fun _ _ => rfl, (AccR.rd kJ PJ).ext GR⟩, ⟨fun _ _ => rfl, AccR.rd kR PR⟩⟩
  refine qM ?_
  refine qC (qA rfl ?_)
  refine qZ 0 (vs:=[.slice _ _ _, .slice _ _ _, .slice _ _ _, .slice _ _ _]) rfl rfl rfl rfl rfl ?_
  refine qS 0 (v:=.agg #[.slice _ _ _, .slice _ _ _, .slice _ _ _, .slice _ _ _]) (vs:=[_, _, _, _]) (c':=[_, _, _, _]) rfl rfl rfl rfl rfl rfl rfl rfl rfl ?_
  refine qH [_, _, _, _, _] rfl ?_
  refine asI rfl ?_
  refine qQ ?_
  refine .inr (Exists.intro _ ⟨rfl, readClo_nil _ _ _ (doneK_list (vs:=[_, _]) Tryz.results34 ⟨zI 0 rfl rfl rfl rfl rfl (vs:=[.slice _ _ _, .slice _ _ _, .slice _ _ _, .slice _ _ _]) rfl, qG rfl rfl, trivial⟩ (fun V => ?_))⟩)
  exact ⟨kX (kX (kX (kX (kX (kX E1 E_k) GH) GD) GJ) GR) (qN V), _, _, _, _, _, _, _, _, _, _, _, _, by rw [hz1]; rfl, fun _ => ⟨⟨AH, AD, AJ, AR2, cH, cD, cJ, cR2, by rw [hz2]; rfl, by rw [hz2]; exact RM.ext (qN V)⟩, by rw [hz2]; exact ⟨Nat.le_trans KL.h (by omega), Nat.le_trans KL.d (by omega), Nat.le_trans KL.j (by omega), Nat.le_trans KL.r (by omega)⟩⟩⟩
 skip
 have gA : (b != 4) = true := by simpa using hb4
 have hbd := lineN_end hgo (.inl hb4)
 rw [← hrows] at hbd
 refine qC (qA rfl ?_)
 refine mvI rfl ?_
 refine pvB rfl ?_
 refine mvB rfl ?_
 refine qI rfl gA ?_
 refine qI rfl gA ?_
 refine qI rfl gA ?_
 refine qI rfl gA ?_
 refine qI rfl gA ?_
 refine qB (wN rfl gA (v:=.bool _) rfl) ?_
 refine wW rfl (rfl) ?_
 refine qA rfl ?_
 refine qB (zD (zc:=[]) (vs:=[]) (cs:=[]) rfl rfl rfl rfl rfl rfl) ?_
 refine qB (wL (v:=_) rfl) ?_
 refine kF rfl ?_
 exact Exists.intro _ ⟨rfl, readClo_pan _ _ _ _ _ _ _ (fun p5 => doneK_list (vs:=[_, _]) Tryz.results34 ⟨zI 0 rfl rfl rfl rfl rfl (vs:=[.slice _ _ _, .slice _ _ _, .slice _ _ _, .slice _ _ _]) rfl, qG rfl rfl, trivial⟩ (fun V => ⟨kX (kX E1 E_k) (qN V), readV0_bad (z:=(rows.length : Int) - 1 + 1) (by rw [hbd]; omega) (by omega)⟩))⟩
end
end Go.Proofs.YtboigjfgpppeaaaGreatDoor
namespace Go.Proofs.YtboigjfgpppeaaaGreatDoor
open Go Go.HL Go.Proofs Go.Wx Go.Rd
section
variable [Lvl]
set_option maxRecDepth 100000
def ReadV1 (h : AH) (t : List UInt8) (v : Value) : Prop := ∃ V, v = .tuple #[V, .int .i64 (readS t).2.1, .int .i64 (readS t).2.2] ∧ SeasonS h (readS t).1 V
theorem vE {h : AH} {t : List UInt8} {s : Season} {row e : Int} {V : Value} (hr : readS t = (s, row, e)) (hv : SeasonS h s V) : ReadV1 h t (.tuple #[V, .int .i64 row, .int .i64 e]) := by
 unfold ReadV1
 rw [hr]
 exact ⟨V, rfl, hv⟩
theorem seasonS0 (h : AH) : SeasonS h s0 (.agg #[.slice none 0 0, .slice none 0 0, .slice none 0 0, .slice none 0 0]) :=
 ⟨none, none, none, none, 0, 0, 0, 0, rfl, ⟨fun _ _ => rfl, Rd.nil _ _⟩, ⟨fun _ _ => rfl, Rd.nil _ _⟩, ⟨fun _ _ => rfl, Rd.nil _ _⟩, ⟨fun _ _ => rfl, Rd.nil _ _⟩⟩
set_option maxHeartbeats 1000000 in
theorem ReadS_ok (t : List UInt8) (h : AH) (PW : Pow h) (ER : Errs h) : FnT Tryz.prog 12 #[.string (bs t)] h (fun v h' => ReadV1 h' t v) := by
 have hp := readS_parts t
 have hz := lineN_pos t
 refine qW Tryz.func12 rfl Tryz.ntmps12 rfl ?_
 refine qC (qA rfl ?_)
 refine wT (cs:=[_, _, _, _]) rfl rfl fun b2 hb2 => ?_
 refine qH [_] rfl ?_
 refine asI rfl ?_
 refine asI rfl ?_
 refine qC (qC (qA rfl ?_))
 refine mvT rfl ?_
 refine qB (zA rfl rfl) ?_
 refine pvB rfl ?_
 refine qP rfl (fun hlen => ?_) (fun hlen => ?_)
 ·skip
  have hlen' : t.length > 500 := by have := of_decide_eq_true hlen; omega
  rw [if_pos hlen'] at hp
  refine qC (qA rfl ?_)
  refine qB (zD (zc:=[_, _, _, _]) (vs:=[]) (cs:=[_, _, _, _]) rfl rfl rfl rfl rfl rfl) ?_
  refine qS 0 (v:=.agg #[.slice _ _ _, .slice _ _ _, .slice _ _ _, .slice _ _ _]) (vs:=[_, _, _, _]) (c':=[_, _, _, _]) rfl rfl rfl rfl rfl rfl rfl rfl rfl ?_
  refine qH [_] rfl ?_
  refine asI rfl ?_
  refine asI rfl ?_
  refine qQ ?_
  refine qJ (vs:=[_, _, _]) Tryz.results12 ⟨zI 0 rfl rfl rfl rfl rfl (vs:=[.slice _ _ _, .slice _ _ _, .slice _ _ _, .slice _ _ _]) rfl, qG rfl rfl, qG rfl rfl, trivial⟩ fun V => ?_
  exact ⟨(qN V), vE hp (seasonS0 _)⟩
 skip
 have hlen' : ¬ t.length > 500 := by have := of_decide_eq_false hlen; omega
 rw [if_neg hlen'] at hp
 refine qM ?_
 refine qC (qA rfl ?_)
 refine mvT rfl ?_
 refine wI (caps:=[]) (vs:=[.string _]) rfl rfl rfl (read_ok t h (PW.ext (Ext.refl _)) (ER.ext (Ext.refl _)) (by omega)) ?_
 rintro _ h1 E1 ⟨A0, n0, c0, A1, n1, c1, A2, n2, c2, A3, n3, c3, rfl, hS⟩
 refine qB (qK (v:=.tuple #[.agg #[.slice _ _ _, .slice _ _ _, .slice _ _ _, .slice _ _ _], .int .i64 _]) rfl) ?_
 refine qB (wL (v:=.agg #[.slice _ _ _, .slice _ _ _, .slice _ _ _, .slice _ _ _]) rfl) ?_
 refine qB (wL (v:=.int .i64 _) rfl) ?_
 refine qS 0 (v:=.agg #[.slice _ _ _, .slice _ _ _, .slice _ _ _, .slice _ _ _]) (vs:=[_, _, _, _]) (c':=[_, _, _, _]) rfl rfl rfl rfl rfl rfl rfl rfl rfl ?_
 refine qH [_] rfl ?_
 refine asI rfl ?_
 refine qC (qC (qA rfl ?_))
 refine mvI rfl ?_
 refine pvB rfl ?_
 refine qP rfl (fun hl => ?_) (fun hl => ?_)
 ·skip
  have hl' : lineN t ≠ 0 := by have := of_decide_eq_true hl; omega
  rw [if_pos hl'] at hp
  refine qC (qA rfl ?_)
  refine qB (zD (zc:=[_, _, _, _]) (vs:=[]) (cs:=[_, _, _, _]) rfl rfl rfl rfl rfl rfl) ?_
  refine mvI rfl ?_
  refine qS 0 (v:=.agg #[.slice _ _ _, .slice _ _ _, .slice _ _ _, .slice _ _ _]) (vs:=[_, _, _, _]) (c':=[_, _, _, _]) rfl rfl rfl rfl rfl rfl rfl rfl rfl ?_
  refine qH [_] rfl ?_
  refine asI rfl ?_
  refine asI rfl ?_
  refine qQ ?_
  refine qJ (vs:=[_, _, _]) Tryz.results12 ⟨zI 0 rfl rfl rfl rfl rfl (vs:=[.slice _ _ _, .slice _ _ _, .slice _ _ _, .slice _ _ _]) rfl, qG rfl rfl, qG rfl rfl, trivial⟩ fun V => ?_
  exact ⟨(kX E1 (qN V)), vE hp (seasonS0 _)⟩
 skip
 have hl' : ¬ lineN t ≠ 0 := by have := of_decide_eq_false hl; omega
 rw [if_neg hl'] at hp
 obtain ⟨⟨B0, B1, B2, B3, d0, d1, d2, d3, hV, RM⟩, LN⟩ := hS (by simpa using hl')
 unfold seasonV at hV
 injection hV with hV
 simp only [Array.mk.injEq, List.cons.injEq, Value.slice.injEq, and_true] at hV
 obtain ⟨⟨rfl, rfl, rfl⟩, ⟨rfl, rfl, rfl⟩, ⟨rfl, rfl, rfl⟩, rfl, rfl, rfl⟩ := hV
 have l0 := LN.h
 have l1 := LN.d
 have l2 := LN.j
 have l3 := LN.r
 refine qM ?_
 refine qC (qC (qA rfl ?_))
 refine qZ 0 (vs:=[.slice _ _ _, .slice _ _ _, .slice _ _ _, .slice _ _ _]) rfl rfl rfl rfl rfl ?_
 refine wI (caps:=[]) (vs:=[.agg #[.slice _ _ _, .slice _ _ _, .slice _ _ _, .slice _ _ _]]) rfl rfl rfl (check_ok (seasN t) A0 A1 A2 A3 c0 c1 c2 c3 h1 (RM.ext (Ext.refl _)) (by omega) (by omega) (by omega) (by omega)) ?_
 rintro _ h2 E2 rfl
 refine asI rfl ?_
 refine qC (qA rfl ?_)
 refine mvI rfl ?_
 refine pvB rfl ?_
 refine qP rfl (fun hc => ?_) (fun hc => ?_)
 ·skip
  have hc' : checkM (seasN t) ≠ 0 := by simpa using hc
  rw [if_pos hc'] at hp
  refine qC (qA rfl ?_)
  refine qB (zD (zc:=[_, _, _, _]) (vs:=[]) (cs:=[_, _, _, _]) rfl rfl rfl rfl rfl rfl) ?_
  refine mvI rfl ?_
  refine qS 0 (v:=.agg #[.slice _ _ _, .slice _ _ _, .slice _ _ _, .slice _ _ _]) (vs:=[_, _, _, _]) (c':=[_, _, _, _]) rfl rfl rfl rfl rfl rfl rfl rfl rfl ?_
  refine qH [_] rfl ?_
  refine asI rfl ?_
  refine asI rfl ?_
  refine qQ ?_
  refine qJ (vs:=[_, _, _]) Tryz.results12 ⟨zI 0 rfl rfl rfl rfl rfl (vs:=[.slice _ _ _, .slice _ _ _, .slice _ _ _, .slice _ _ _]) rfl, qG rfl rfl, qG rfl rfl, trivial⟩ fun V => ?_
  exact ⟨(kX (kX E1 E2) (qN V)), vE hp (seasonS0 _)⟩
 skip
 have hc' : ¬ checkM (seasN t) ≠ 0 := by simpa using hc
 rw [if_neg hc'] at hp
 refine qM ?_
 refine qC (qA rfl ?_)
 refine qZ 0 (vs:=[.slice _ _ _, .slice _ _ _, .slice _ _ _, .slice _ _ _]) rfl rfl rfl rfl rfl ?_
 refine qS 0 (v:=.agg #[.slice _ _ _, .slice _ _ _, .slice _ _ _, .slice _ _ _]) (vs:=[_, _, _, _]) (c':=[_, _, _, _]) rfl rfl rfl rfl rfl rfl rfl rfl rfl ?_
 refine qH [_] rfl ?_
 refine asI rfl ?_
 refine asI rfl ?_
 refine qQ ?_
 refine qJ (vs:=[_, _, _]) Tryz.results12 ⟨zI 0 rfl rfl rfl rfl rfl (vs:=[.slice _ _ _, .slice _ _ _, .slice _ _ _, .slice _ _ _]) rfl, qG rfl rfl, qG rfl rfl, trivial⟩ fun V => ?_
 exact ⟨(kX (kX E1 E2) (qN V)), vE hp ⟨A0, A1, A2, A3, c0, c1, c2, c3, rfl, RM.ext (kX E2 (qN V))⟩⟩
end
end Go.Proofs.YtboigjfgpppeaaaGreatDoor
namespace Go.Proofs.YtboigjfgpppeaaaGreatDoor
open Go Go.HL Go.Proofs Go.Wx
variable [Lvl]
set_option maxRecDepth 100000
theorem step_ok (b x : Nat) (h : AH) : FnM Tryz.prog (.func (.func 58) #[] ([] : List Value).toArray) [.pointer (some ⟨b, 0, none⟩)] h [some (b, .cells #[.int .u64 (x : Int)] 67 (0, 0))]
  (fun v h' M' => ∃ x' r : Nat, M' = [some (b, .cells #[.int .u64 (x' : Int)] 67 (0, 0))] ∧ v = .int .u64 (r : Int)) := by
 refine zW rfl rfl Tryz.func58 rfl Tryz.ntmps58 rfl ?_
 refine qC (qA rfl ?_)
 refine asI rfl ?_
 refine qC (qA rfl ?_)
 refine qB (qK (v:=.pointer (some ⟨b, 0, none⟩)) rfl) ?_
 refine qB (qK (v:=.pointer (some ⟨b, 0, none⟩)) rfl) ?_
 refine qB (wL (v:=.pointer (some ⟨b, 0, none⟩)) rfl) ?_
 refine qB (qD rfl rfl rfl rfl 0 rfl) ?_
 refine qL 0 (v:=.int .u64 _) rfl rfl rfl rfl ?_
 refine op_some rfl fun r1 hr1 => ?_
 refine op_some rfl fun r2 hr2 => ?_
 refine qB (wL (v:=.pointer (some ⟨b, 0, none⟩)) rfl) ?_
 refine qB (qD rfl rfl rfl rfl 0 rfl) ?_
 refine qS 0 (v:=.int .u64 _) (vs:=[_]) (c':=[_]) rfl rfl rfl rfl rfl rfl rfl rfl rfl ?_
 refine qH [_] rfl ?_
 refine qC (qA rfl ?_)
 refine qB (qK (v:=.pointer (some ⟨b, 0, none⟩)) rfl) ?_
 refine qB (wL (v:=.pointer (some ⟨b, 0, none⟩)) rfl) ?_
 refine qB (qD rfl rfl rfl rfl 0 rfl) ?_
 refine qL 0 (v:=.int .u64 _) rfl rfl rfl rfl ?_
 refine asI rfl ?_
 refine qC (qA rfl ?_)
 refine mvI rfl ?_
 refine mvI rfl ?_
 refine qB (pv_shr _ 33 (.inr rfl) rfl rfl rfl rfl (by omega)) ?_
 refine op_some rfl fun r3 hr3 => ?_
 refine op_some rfl fun r4 hr4 => ?_
 refine asI rfl ?_
 refine qC (qA rfl ?_)
 refine mvI rfl ?_
 refine mvI rfl ?_
 refine qB (pv_shr _ 33 (.inr rfl) rfl rfl rfl rfl (by omega)) ?_
 refine op_some rfl fun r5 hr5 => ?_
 refine op_some rfl fun r6 hr6 => ?_
 refine asI rfl ?_
 refine qC (qA rfl ?_)
 refine mvI rfl ?_
 refine mvI rfl ?_
 refine qB (pv_shr _ 33 (.inr rfl) rfl rfl rfl rfl (by omega)) ?_
 refine op_some rfl fun r7 hr7 => ?_
 refine asI rfl ?_
 refine qQ ?_
 refine qJ (vs:=[_]) Tryz.results58 ⟨qG rfl rfl, trivial⟩ fun V => ?_
 exact ⟨_, [_], rfl, V, (Ext.refl _), r2, r7, rfl, rfl⟩
theorem Upto_ok (b x : Nat) (n : Int) (hn : n < 2 ^ 40) (h : AH) : FnM Tryz.prog (.func (.func 25) #[] ([] : List Value).toArray) [.pointer (some ⟨b, 0, none⟩), .int .i64 n] h [some (b, .cells #[.int .u64 (x : Int)] 67 (0, 0))]
  (fun v h' M' => ∃ (x' : Nat) (k : Int), M' = [some (b, .cells #[.int .u64 (x' : Int)] 67 (0, 0))] ∧ v = .int .i64 k ∧ 0 ≤ k ∧ k ≤ max n 0) := by
 refine zW rfl rfl Tryz.func25 rfl Tryz.ntmps25 rfl ?_
 refine qC (qA rfl ?_)
 refine asI rfl ?_
 refine qC (qC (qA rfl ?_))
 refine mvI rfl ?_
 refine pvB rfl ?_
 refine qP rfl (fun ht => ?_) (fun ht => ?_)
 ·skip
  refine qC (qA rfl ?_)
  refine asI rfl ?_
  refine qQ ?_
  refine qJ (vs:=[_]) Tryz.results25 ⟨qG rfl rfl, trivial⟩ fun V => ?_
  exact ⟨_, [_], rfl, V, (Ext.refl _), x, 0, rfl, rfl, by omega, by omega⟩
 skip
 have h1 : 1 ≤ n := by simpa using ht
 refine qM ?_
 refine qC (qA rfl ?_)
 refine qB (qK (v:=.pointer (some ⟨b, 0, none⟩)) rfl) ?_
 refine zM [] [_] [] (vs:=_) rfl rfl rfl ((step_ok b x h)) ?_
 rintro _ h2 _ E2 ⟨x2, r, rfl, rfl⟩
 refine qH [_] rfl ?_
 refine qB (pv_shr _ 11 (.inr rfl) rfl rfl rfl rfl (by omega)) ?_
 refine mvI rfl ?_
 refine qB (qO rfl (by omega)) ?_
 refine qB (pv_val (intE (show IntKind.wrap .u64 (n + 1) = (((n + 1).toNat : Nat) : Int) by rw [IntWalk.u64_in _ (by omega)]; omega)) rfl) ?_
 refine qB (pv_rem (b:=(n + 1).toNat) rfl rfl rfl (by omega)) ?_
 have hm : r / 2 ^ 11 % (n + 1).toNat < (n + 1).toNat := Nat.mod_lt _ (by omega)
 refine qB (pv_val (intE (show IntKind.wrap .i64 ((r / 2 ^ 11 % (n + 1).toNat : Nat) : Int) = ((r / 2 ^ 11 % (n + 1).toNat : Nat) : Int) by rw [IntWalk.i64_in _ (by omega)])) rfl) ?_
 refine asI rfl ?_
 refine qQ ?_
 refine qJ (vs:=[_]) Tryz.results25 ⟨qG rfl rfl, trivial⟩ fun V => ?_
 exact ⟨_, [_], rfl, V, E2, x2, _, rfl, rfl, by omega, by omega⟩
theorem Within_ok (b x : Nat) (lo hi : Int) (h1 : -2 ^ 30 ≤ lo) (h2 : lo ≤ hi) (h3 : hi ≤ 2 ^ 30) (h : AH) : FnM Tryz.prog (.func (.func 23) #[] ([] : List Value).toArray) [.pointer (some ⟨b, 0, none⟩), .int .i64 lo, .int .i64 hi] h [some (b, .cells #[.int .u64 (x : Int)] 67 (0, 0))]
  (fun v h' M' => ∃ (x' : Nat) (k : Int), M' = [some (b, .cells #[.int .u64 (x' : Int)] 67 (0, 0))] ∧ v = .int .i64 k ∧ lo ≤ k ∧ k ≤ hi) := by
 refine zW rfl rfl Tryz.func23 rfl Tryz.ntmps23 rfl ?_
 refine qC (qA rfl ?_)
 refine asI rfl ?_
 refine qC (qA rfl ?_)
 refine mvI rfl ?_
 refine qB (qK (v:=.pointer (some ⟨b, 0, none⟩)) rfl) ?_
 refine mvI rfl ?_
 refine mvI rfl ?_
 refine qB (qO rfl (by omega)) ?_
 refine zM [] [_] [] (vs:=[.pointer _, .int .i64 _]) rfl rfl rfl ((Upto_ok b x (hi - lo) (by omega) h)) ?_
 rintro _ h2 _ E2 ⟨x2, k, rfl, rfl, k1, k2⟩
 refine qH [_] rfl ?_
 refine qB (qO rfl (by omega)) ?_
 refine asI rfl ?_
 refine qQ ?_
 refine qJ (vs:=[_]) Tryz.results23 ⟨qG rfl rfl, trivial⟩ fun V => ?_
 exact ⟨_, [_], rfl, V, E2, x2, lo + k, rfl, rfl, by omega, by omega⟩
theorem Of_ok (b x : Nat) (l : List Int) (hl : 0 < l.length) (hl2 : l.length < 2 ^ 20) (A : Option Addr) (c : Nat) (h : AH) (R : Row h 1 intC A l) : FnM Tryz.prog (.func (.func 26) #[] ([] : List Value).toArray) [.pointer (some ⟨b, 0, none⟩), .slice A l.length c] h [some (b, .cells #[.int .u64 (x : Int)] 67 (0, 0))]
  (fun v h' M' => ∃ (x' : Nat) (k : Int), M' = [some (b, .cells #[.int .u64 (x' : Int)] 67 (0, 0))] ∧ v = .int .i64 k ∧ k ∈ l) := by
 refine zW rfl rfl Tryz.func26 rfl Tryz.ntmps26 rfl ?_
 refine qC (qA rfl ?_)
 refine asI rfl ?_
 refine qC (qC (qA rfl ?_))
 refine mvS rfl ?_
 refine qB (wP rfl rfl) ?_
 refine pvB rfl ?_
 refine wS rfl (by first | (rw [decide_eq_false_iff_not]; omega) | (rw [beq_eq_false_iff_ne]; omega)) ?_
 refine qM ?_
 refine qC (qA rfl ?_)
 refine mvS rfl ?_
 refine qB (qK (v:=.pointer (some ⟨b, 0, none⟩)) rfl) ?_
 refine mvS rfl ?_
 refine qB (wP rfl rfl) ?_
 refine qB (qO rfl (by omega)) ?_
 refine zM [] [_] [] (vs:=[.pointer _, .int .i64 _]) rfl rfl rfl ((Upto_ok b x (l.length - 1) (by omega) h)) ?_
 rintro _ h2 _ E2 ⟨x2, k, rfl, rfl, k1, k2⟩
 refine qH [_] rfl ?_
 obtain ⟨q, rfl⟩ : ∃ q : Nat, k = q := ⟨k.toNat, by omega⟩
 have hq : q < l.length := by omega
 obtain ⟨g, off, hA, hc⟩ := (R.ext E2).at (by omega) hq
 refine qB (wK rfl hA rfl rfl rfl (by omega) (by omega)) ?_
 refine wX (v:=.int .i64 _) rfl rfl ((hc) 0 _ rfl) ?_
 refine asI rfl ?_
 refine qQ ?_
 refine qJ (vs:=[_]) Tryz.results26 ⟨qG rfl rfl, trivial⟩ fun V => ?_
 exact ⟨_, [_], rfl, V, E2, x2, l[q], rfl, rfl, List.getElem_mem hq⟩
theorem Near_ok (b x : Nat) (a lo hi d : Int) (ha : -2 ^ 30 ≤ a ∧ a ≤ 2 ^ 30) (hd : 0 ≤ d ∧ d ≤ 2 ^ 30) (h : AH) : FnM Tryz.prog (.func (.func 24) #[] ([] : List Value).toArray) [.pointer (some ⟨b, 0, none⟩), .int .i64 a, .int .i64 lo, .int .i64 hi, .int .i64 d] h [some (b, .cells #[.int .u64 (x : Int)] 67 (0, 0))]
  (fun v h' M' => ∃ (x' : Nat) (u w : Int), M' = [some (b, .cells #[.int .u64 (x' : Int)] 67 (0, 0))] ∧ v = .agg #[.int .i64 (max lo (a - u)), .int .i64 (min hi (a + w))] ∧ 0 ≤ u ∧ u ≤ d ∧ 0 ≤ w ∧ w ≤ d) := by
 refine zW rfl rfl Tryz.func24 rfl Tryz.ntmps24 rfl ?_
 refine qC (qA rfl ?_)
 refine wT (cs:=[_, _]) rfl rfl fun b10 hb10 => ?_
 refine qH [_, _] rfl ?_
 refine qC (qA rfl ?_)
 refine mvI rfl ?_
 refine mvI rfl ?_
 refine qB (qK (v:=.pointer (some ⟨b, 0, none⟩)) rfl) ?_
 refine qB (qK (v:=.pointer (some ⟨b, 0, none⟩)) rfl) ?_
 refine mvI rfl ?_
 refine zM [] [_] [_] (vs:=[.pointer _, .int .i64 _]) rfl rfl rfl ((Upto_ok b x d (by omega) h)) ?_
 rintro _ h2 _ E2 ⟨x2, k2, rfl, rfl, k21, k22⟩
 refine qH [_, _] rfl ?_
 refine wG (zc:=[_]) (vs:=[(0, .int .i64 _), (1, .int .i64 _), (2, .int .i64 _)]) (cs:=[_, _, _]) rfl rfl rfl rfl rfl rfl rfl fun b17 hb17 => ?_
 refine qH [_, _, _] rfl ?_
 refine wp_pub 2 rfl rfl ?_
 intro h3 E3 p3
 refine qH [_, _, _] rfl ?_
 refine zM [] [_] [_, _] (vs:=[.pointer _, .slice _ _ _]) rfl rfl rfl ((Of_ok b x2 [0, 0, k2] (by simp) (by simp) _ _ h3 (yG (enc:=intC) (m:=1) (l:=[0, 0, k2]) (fun _ _ => rfl) p3))) ?_
 rintro _ h4 _ E4 ⟨x4, k4, rfl, rfl, k4m⟩
 refine qH [_, _, _] rfl ?_
 have k4b : 0 ≤ k4 ∧ k4 ≤ d := by simp at k4m; omega
 refine qB (qO rfl (by omega)) ?_
 refine qB (pv_max rfl rfl) ?_
 refine mvI rfl ?_
 refine mvI rfl ?_
 refine qB (qK (v:=.pointer (some ⟨b, 0, none⟩)) rfl) ?_
 refine qB (qK (v:=.pointer (some ⟨b, 0, none⟩)) rfl) ?_
 refine mvI rfl ?_
 refine zM [] [_] [_, _] (vs:=[.pointer _, .int .i64 _]) rfl rfl rfl ((Upto_ok b x4 d (by omega) h4)) ?_
 rintro _ h5 _ E5 ⟨x5, k5, rfl, rfl, k51, k52⟩
 refine qH [_, _, _] rfl ?_
 refine wG (zc:=[_]) (vs:=[(0, .int .i64 _), (1, .int .i64 _), (2, .int .i64 _)]) (cs:=[_, _, _]) rfl rfl rfl rfl rfl rfl rfl fun b27 hb27 => ?_
 refine qH [_, _, _, _] rfl ?_
 refine wp_pub 3 rfl rfl ?_
 intro h6 E6 p6
 refine qH [_, _, _, _] rfl ?_
 refine zM [] [_] [_, _, _] (vs:=[.pointer _, .slice _ _ _]) rfl rfl rfl ((Of_ok b x5 [0, 0, k5] (by simp) (by simp) _ _ h6 (yG (enc:=intC) (m:=1) (l:=[0, 0, k5]) (fun _ _ => rfl) p6))) ?_
 rintro _ h7 _ E7 ⟨x7, k7, rfl, rfl, k7m⟩
 refine qH [_, _, _, _] rfl ?_
 have k7b : 0 ≤ k7 ∧ k7 ≤ d := by simp at k7m; omega
 refine qB (qO rfl (by omega)) ?_
 refine qB (pv_min rfl rfl) ?_
 refine qB (zD (zc:=[_, _]) (vs:=[(0, .int .i64 _), (1, .int .i64 _)]) (cs:=[_, _]) rfl rfl rfl rfl rfl rfl) ?_
 refine qS 1 (v:=.agg #[.int .i64 _, .int .i64 _]) (vs:=[_, _]) (c':=[_, _]) rfl rfl rfl rfl rfl rfl rfl rfl rfl ?_
 refine qH [_, _, _, _] rfl ?_
 refine qQ ?_
 refine qJ (vs:=[_]) Tryz.results24 ⟨zI 1 rfl rfl rfl rfl rfl (vs:=[.int .i64 _, .int .i64 _]) rfl, trivial⟩ fun V => ?_
 obtain ⟨h9, E9, e9, V9⟩ := yY [_, _, _] [_] V
 exact ⟨h9, _, e9, V9, kX (kX (kX (kX (kX (kX E2 E3) E4) E5) E6) E7) E9, x7, k4, k7, rfl, rfl, k4b.1, k4b.2, k7b.1, k7b.2⟩
theorem NewPot_ok (l : List Int) (hl : l.length < 2 ^ 63) (A : Option Addr) (c : Nat) (h : AH) (R : Row h 1 intC A l) : FnM Tryz.prog (.func (.func 8) #[] ([] : List Value).toArray) [.slice A l.length c] h []
  (fun v h' M' => ∃ b x : Nat, M' = [some (b, .cells #[.int .u64 (x : Int)] 67 (0, 0))] ∧ v = .pointer (some ⟨b, 0, none⟩)) := by
 refine zW rfl rfl Tryz.func8 rfl Tryz.ntmps8 rfl ?_
 refine qC (qA rfl ?_)
 refine qB (wA (v:=.pointer _) rfl) ?_
 refine qC (qA rfl ?_)
 refine qB (zD (zc:=[_]) (vs:=[(0, .int .u64 _)]) (cs:=[_]) rfl rfl rfl rfl rfl rfl) ?_
 refine zC (v:=.agg #[.int .u64 _]) (cs:=[_]) rfl rfl fun b6 hb6 => ?_
 refine qH [_] rfl ?_
 refine qB (wA (v:=.pointer (some ⟨b6, 0, none⟩)) rfl) ?_
 refine qC (qC (qA rfl ?_))
 refine asI rfl ?_
 refine qT ?_
 refine yC [4, 7, 8, 9, 10, 11, 12, 13, 14, 15, 16, 17, 18, 19, 20, 21, 22, 23, 24, 25, 26, 27, 28, 29, 30, 31, 32, 33, 34, 35, 36, 37, 38, 39] 1 (α:=Nat × Nat) (fun ⟨k, x⟩ => [(4, .int .i64 k)]) (fun ⟨k, x⟩ L => L.set 0 (some (b6, .cells #[.int .u64 (x : Int)] 67 (0, 0)))) (fun ⟨k, x⟩ h_k => k ≤ l.length) (fun ⟨k, x⟩ => l.length - k) ((0, 2611923443488327891)) ⟨rfl, trivial⟩ (rfl) (Nat.zero_le _) ?_
 rintro ⟨k, x⟩ T1 h_k E_k J_k
 refine qR [_] rfl ?_
 refine qC (qC (qA rfl ?_))
 refine mvI rfl ?_
 refine mvS rfl ?_
 refine qB (wP rfl rfl) ?_
 refine pvB rfl ?_
 refine qP rfl (fun ht => ?_) (fun ht => ?_)
 ·skip
  have hlt := ltI ht
  obtain ⟨g, off, hA, hc⟩ := (R.ext E_k).at (by omega) hlt
  refine qM ?_
  refine qC ?_
  refine qT ?_
  refine qC ?_
  refine zL [] rfl rfl rfl ?_
  refine qE (i:=0) rfl (by decide +kernel) (qK (v:=.pointer (some ⟨b6, 0, none⟩)) rfl) ?_
  refine qE (i:=1) rfl (by decide +kernel) (qK (v:=.pointer (some ⟨b6, 0, none⟩)) rfl) ?_
  refine qE (i:=2) rfl (by decide +kernel) (wL (v:=.pointer (some ⟨b6, 0, none⟩)) rfl) ?_
  refine qE (i:=3) rfl (by decide +kernel) (qD rfl rfl rfl rfl 0 rfl) ?_
  refine wD (i:=4) rfl (by decide +kernel) ?_
  refine qL 0 (v:=.int .u64 _) rfl rfl rfl rfl ?_
  refine qE (i:=5) rfl (by decide +kernel) (qK (v:=.slice _ _ _) rfl) ?_
  refine qE (i:=6) rfl (by decide +kernel) (qK (v:=.int .i64 _) rfl) ?_
  refine qE (i:=7) rfl (by decide +kernel) (wK rfl hA rfl rfl rfl (by omega) (by omega)) ?_
  refine wD (i:=8) rfl (by decide +kernel) ?_
  refine wX (v:=.int .i64 _) rfl rfl ((hc) 0 _ rfl) ?_
  refine dw_some (i:=9) rfl (by decide +kernel) rfl fun r1 hr1 => ?_
  refine dw_some (i:=10) rfl (by decide +kernel) rfl fun r2 hr2 => ?_
  refine dw_some (i:=11) rfl (by decide +kernel) rfl fun r3 hr3 => ?_
  refine qE (i:=12) rfl (by decide +kernel) (wL (v:=.pointer (some ⟨b6, 0, none⟩)) rfl) ?_
  refine qE (i:=13) rfl (by decide +kernel) (qD rfl rfl rfl rfl 0 rfl) ?_
  refine wU (i:=14) rfl (by decide +kernel) (by decide +kernel) ?_
  refine qS 0 (v:=.int .u64 _) (vs:=[_]) (c':=[_]) rfl rfl rfl rfl rfl rfl rfl rfl rfl ?_
  refine wJ [_] rfl ?_
  refine zB rfl ?_
  refine zL [] rfl rfl rfl ?_
  refine qE (i:=0) rfl (by decide +kernel) (qK (v:=.pointer (some ⟨b6, 0, none⟩)) rfl) ?_
  refine qE (i:=1) rfl (by decide +kernel) (qK (v:=.pointer (some ⟨b6, 0, none⟩)) rfl) ?_
  refine qE (i:=2) rfl (by decide +kernel) (wL (v:=.pointer (some ⟨b6, 0, none⟩)) rfl) ?_
  refine qE (i:=3) rfl (by decide +kernel) (qD rfl rfl rfl rfl 0 rfl) ?_
  refine wD (i:=4) rfl (by decide +kernel) ?_
  refine qL 0 (v:=.int .u64 _) rfl rfl rfl rfl ?_
  refine qE (i:=5) rfl (by decide +kernel) (qK (v:=.pointer (some ⟨b6, 0, none⟩)) rfl) ?_
  refine qE (i:=6) rfl (by decide +kernel) (wL (v:=.pointer (some ⟨b6, 0, none⟩)) rfl) ?_
  refine qE (i:=7) rfl (by decide +kernel) (qD rfl rfl rfl rfl 0 rfl) ?_
  refine wD (i:=8) rfl (by decide +kernel) ?_
  refine qL 0 (v:=.int .u64 _) rfl rfl rfl rfl ?_
  refine qE (i:=9) rfl (by decide +kernel) (pv_shr _ 32 (.inr rfl) rfl rfl rfl rfl (by omega)) ?_
  refine dw_some (i:=10) rfl (by decide +kernel) rfl fun r4 hr4 => ?_
  refine qE (i:=11) rfl (by decide +kernel) (wL (v:=.pointer (some ⟨b6, 0, none⟩)) rfl) ?_
  refine qE (i:=12) rfl (by decide +kernel) (qD rfl rfl rfl rfl 0 rfl) ?_
  refine wU (i:=13) rfl (by decide +kernel) (by decide +kernel) ?_
  refine qS 0 (v:=.int .u64 _) (vs:=[_]) (c':=[_]) rfl rfl rfl rfl rfl rfl rfl rfl rfl ?_
  refine wJ [_] rfl ?_
  refine zB rfl ?_
  refine qA rfl ?_
  refine mvI rfl ?_
  refine qB (qO rfl (by omega)) ?_
  refine asI rfl ?_
  refine ⟨(k + 1, r4), ⟨rfl, trivial⟩, rfl, rfl, E_k, fun h3 E3 => hlt, by first | omega | (dsimp only; omega), ?_⟩
  repeat (first | exact qV _ _ _ | refine qX (by decide) ?_ | refine qU rfl ?_ | refine qY rfl ?_)
 skip
 refine wV ?_
 refine qC (qA rfl ?_)
 refine qB (qK (v:=.pointer (some ⟨b6, 0, none⟩)) rfl) ?_
 refine qB (wA (v:=.pointer (some ⟨b6, 0, none⟩)) rfl) ?_
 refine qQ ?_
 refine qJ (vs:=[_]) Tryz.results8 ⟨qG rfl rfl, trivial⟩ fun V => ?_
 exact ⟨_, [_], rfl, V, E_k, b6, x, rfl, rfl⟩
end Go.Proofs.YtboigjfgpppeaaaGreatDoor
namespace Go.Proofs.YtboigjfgpppeaaaGreatDoor
open Go Go.HL Go.Proofs Go.Wx
variable [Lvl]
set_option maxRecDepth 100000
theorem SeenOf_ok (b x : Nat) (W dn : Nat) (hW : 0 < W) (hW2 : W < 2 ^ 20) (f : List Int) (hf : 0 < f.length) (hf2 : f.length < 2 ^ 20) (HA DA FA : Option Addr) (hc dc fc : Nat) (h : AH) (R : Row h 1 intC FA f) :
  FnM Tryz.prog (.func (.func 27) #[] ([] : List Value).toArray) [.pointer (some ⟨b, 0, none⟩), .agg #[.slice HA W hc, .slice DA dn dc, .slice FA f.length fc]] h [some (b, .cells #[.int .u64 (x : Int)] 67 (0, 0))]
  (fun v h' M' => ∃ (x' : Nat) (r : Seen), M' = [some (b, .cells #[.int .u64 (x' : Int)] 67 (0, 0))] ∧ v = .agg (seenC r).toArray ∧ 0 ≤ r.joint ∧ r.joint < f.length ∧ 0 ≤ r.week ∧ r.week < W ∧ r.failed = decide (f.getD r.joint.toNat 0 ≤ r.week)) := by
 refine zW rfl rfl Tryz.func27 rfl Tryz.ntmps27 rfl ?_
 refine qC (qA rfl ?_)
 refine zC (v:=.agg #[.slice _ _ _, .slice _ _ _, .slice _ _ _]) (cs:=[_, _, _]) rfl rfl fun b3 hb3 => ?_
 refine qH [_, _] rfl ?_
 refine wT (cs:=[_, _, _]) rfl rfl fun b4 hb4 => ?_
 refine qH [_, _, _] rfl ?_
 refine qC ?_
 refine zL [true, false, false] rfl rfl rfl ?_
 refine qE (i:=0) rfl (by decide +kernel) (qK (v:=.pointer (some ⟨b, 0, none⟩)) rfl) ?_
 refine qE (i:=1) rfl (by decide +kernel) (qD rfl rfl rfl rfl 2 rfl) ?_
 refine wD (i:=2) rfl (by decide +kernel) ?_
 refine qL 1 (v:=.slice _ _ _) rfl rfl rfl rfl ?_
 refine qE (i:=3) rfl (by decide +kernel) (wP rfl rfl) ?_
 refine qE (i:=4) rfl (by decide +kernel) (qO rfl (by omega)) ?_
 refine qE (i:=6) rfl (by decide +kernel) (qK (v:=.pointer (some ⟨b, 0, none⟩)) rfl) ?_
 refine qE (i:=7) rfl (by decide +kernel) (qD rfl rfl rfl rfl 0 rfl) ?_
 refine wD (i:=8) rfl (by decide +kernel) ?_
 refine qL 1 (v:=.slice _ _ _) rfl rfl rfl rfl ?_
 refine qE (i:=9) rfl (by decide +kernel) (wP rfl rfl) ?_
 refine qE (i:=10) rfl (by decide +kernel) (qO rfl (by omega)) ?_
 refine wZ (i:=5) rfl (by decide +kernel) ?_
 refine zM [] [_] [_, _] (vs:=[.pointer _, .int .i64 _]) rfl rfl rfl ((Upto_ok b x (f.length - 1) (by omega) h)) ?_
 rintro _ h2 _ E2 ⟨x2, k, rfl, rfl, k1, k2⟩
 refine ⟨zJ E2 _, ?_⟩
 refine wJ [_, _, _] rfl ?_
 refine wU (i:=11) rfl (by decide +kernel) (by decide +kernel) ?_
 refine zM [] [_] [_, _] (vs:=[.pointer _, .int .i64 _]) rfl rfl rfl ((Upto_ok b x2 (W - 1) (by omega) h2)) ?_
 rintro _ h3 _ E3 ⟨x3, w, rfl, rfl, w1, w2⟩
 refine wJ [_, _, _] rfl ?_
 obtain ⟨q, rfl⟩ : ∃ q : Nat, k = q := ⟨k.toNat, by omega⟩
 have hq : q < f.length := by omega
 obtain ⟨g, off, hA, hcq⟩ := (R.ext (kX E2 E3)).at (by omega) hq
 refine qE (i:=12) rfl (by decide +kernel) (zD (zc:=[_, _, _]) (vs:=[(0, .int .i64 _), (1, .int .i64 _)]) (cs:=[_, _, _]) rfl rfl rfl rfl rfl rfl) ?_
 refine wZ (i:=13) rfl (by decide +kernel) ?_
 refine wT (cs:=[_, _, _]) rfl rfl fun b5 hb5 => ?_
 refine ⟨vL hb5 _, ?_⟩
 refine wJ [_, _, _, _] rfl ?_
 refine wU (i:=14) rfl (by decide +kernel) (by decide +kernel) ?_
 refine qS 3 (v:=.agg #[.int .i64 _, .int .i64 _, .bool _]) (vs:=[_, _, _]) (c':=[_, _, _]) rfl rfl rfl rfl rfl rfl rfl rfl rfl ?_
 refine wJ [_, _, _, _] rfl ?_
 refine zB rfl ?_
 refine qC ?_
 refine zL [] rfl rfl rfl ?_
 refine qE (i:=0) rfl (by decide +kernel) (qD rfl rfl rfl rfl 2 rfl) ?_
 refine wD (i:=1) rfl (by decide +kernel) ?_
 refine qL 1 (v:=.slice _ _ _) rfl rfl rfl rfl ?_
 refine qE (i:=2) rfl (by decide +kernel) (qD rfl rfl rfl rfl 0 rfl) ?_
 refine wD (i:=3) rfl (by decide +kernel) ?_
 refine qL 3 (v:=.int .i64 _) rfl rfl rfl rfl ?_
 refine qE (i:=4) rfl (by decide +kernel) (wK rfl hA rfl rfl rfl (by omega) (by omega)) ?_
 refine wD (i:=5) rfl (by decide +kernel) ?_
 refine wX (v:=.int .i64 _) rfl rfl ((hcq) 0 _ rfl) ?_
 refine qE (i:=6) rfl (by decide +kernel) (qD rfl rfl rfl rfl 1 rfl) ?_
 refine wD (i:=7) rfl (by decide +kernel) ?_
 refine qL 3 (v:=.int .i64 _) rfl rfl rfl rfl ?_
 refine qE (i:=8) rfl (by decide +kernel) (wL (v:=.bool _) rfl) ?_
 refine qE (i:=9) rfl (by decide +kernel) (qD rfl rfl rfl rfl 2 rfl) ?_
 refine wU (i:=10) rfl (by decide +kernel) (by decide +kernel) ?_
 refine qS 3 (v:=.bool _) (vs:=[_]) (c':=[_, _, _]) rfl rfl rfl rfl rfl rfl rfl rfl rfl ?_
 refine wJ [_, _, _, _] rfl ?_
 refine zB rfl ?_
 refine qC (qA rfl ?_)
 refine qZ 3 (vs:=[.int .i64 _, .int .i64 _, .bool _]) rfl rfl rfl rfl rfl ?_
 refine qS 2 (v:=.agg #[.int .i64 _, .int .i64 _, .bool _]) (vs:=[_, _, _]) (c':=[_, _, _]) rfl rfl rfl rfl rfl rfl rfl rfl rfl ?_
 refine qH [_, _, _, _] rfl ?_
 refine qQ ?_
 refine qJ (vs:=[_]) Tryz.results27 ⟨zI 2 rfl rfl rfl rfl rfl (vs:=[.int .i64 _, .int .i64 _, .bool _]) rfl, trivial⟩ fun V => ?_
 obtain ⟨h9, E9, e9, V9⟩ := yY [_, _, _] [_] V
 refine ⟨h9, _, e9, V9, kX (kX E2 E3) E9, x3, ⟨q, w, decide (f[q] ≤ w)⟩, rfl, rfl, by simp, by simp; omega, w1, by simp; omega, ?_⟩
 simp [List.getD_eq_getElem?_getD, List.getElem?_eq_getElem hq]
end Go.Proofs.YtboigjfgpppeaaaGreatDoor
namespace Go.Wx
open Go Go.HL
variable [Lvl]
def NearR (t lo hi d : Int) (r : Rg) : Prop := ∃ u w : Int, 0 ≤ u ∧ u ≤ d ∧ 0 ≤ w ∧ w ≤ d ∧ r = ⟨max lo (t - u), min hi (t + w)⟩
structure NearL (ts : List Int) (rs : List Rg) : Prop where
 len : rs.length = ts.length
 at' : ∀ (i : Nat) t r, ts[i]? = some t → rs[i]? = some r → NearR t (-50) 100 1 r
theorem NearL.nil : NearL [] [] := ⟨rfl, fun i t r h => by simp at h⟩
theorem NearL.snoc {ts : List Int} {rs : List Rg} (n : NearL ts rs) {t : Int} {r : Rg} (h : NearR t (-50) 100 1 r) : NearL (ts ++ [t]) (rs ++ [r]) := by
 refine ⟨by simp [n.len], fun i t' r' h1 h2 => ?_⟩
 by_cases hi : i < ts.length
 ·rw [List.getElem?_append_left hi] at h1
  rw [List.getElem?_append_left (by rw [n.len]; exact hi)] at h2
  exact n.at' i t' r' h1 h2
 have hl := (List.getElem?_eq_some_iff.1 h1).1
 have hi2 : i = ts.length := by simp at hl; omega
 subst hi2
 rw [List.getElem?_append_right (by omega)] at h1
 rw [List.getElem?_append_right (by rw [n.len]; omega)] at h2
 simp [n.len] at h1 h2
 subst h1 h2
 exact h
def coldN (x : List Int) (lo : Int) (k : Nat) : Nat := ((x.take k).filter fun t => decide (t ≤ lo)).length
def failW (x : List Int) (hi lo many life : Int) (w : Nat) : Bool := decide (x.getD w 0 ≥ hi) || decide ((w : Int) = life) || (decide (x.getD w 0 ≤ lo) && decide ((coldN x lo (w + 1) : Int) = many))
def failP (x : List Int) (hi lo many life : Int) : Nat → Nat
 | 0 => x.length
 | k + 1 => if failW x hi lo many life (x.length - (k + 1)) then x.length - (k + 1) else failP x hi lo many life k
def failT (x : List Int) (hi lo many life : Int) : Nat := failP x hi lo many life x.length
theorem coldN_succ {x : List Int} {lo : Int} {k : Nat} (hk : k < x.length) : coldN x lo (k + 1) = coldN x lo k + if x[k] ≤ lo then 1 else 0 := by
 unfold coldN
 rw [take_snoc hk, List.filter_append, List.length_append]
 by_cases h : x[k] ≤ lo <;> simp [h]
theorem coldN_le (x : List Int) (lo : Int) (k : Nat) : coldN x lo k ≤ k := by
 unfold coldN
 exact Nat.le_trans (List.length_filter_le _ _) (by simp; omega)
structure JointT (ht dt : List Int) (j : Joint) (f : Int) (hi lo many life : Int) : Prop where
 k : (j.kind = 1 ∧ 25 ≤ hi ∧ hi ≤ 38 ∧ -5 ≤ lo ∧ lo ≤ 8) ∨ (j.kind = 2 ∧ 60 ≤ hi ∧ hi ≤ 72 ∧ 28 ≤ lo ∧ lo ≤ 42)
 m : 1 ≤ many ∧ many ≤ 3
 l : 0 ≤ life ∧ life ≤ 9
 h1 : NearR hi (-50) 100 1 j.high
 h2 : NearR lo (-50) 100 1 j.low
 h3 : NearR many 1 6 1 j.weeks
 h4 : NearR life 0 9 2 j.life
 f : f = (failT (if j.kind = 1 then ht else dt) hi lo many life : Nat)
structure JointsT (ht dt : List Int) (js : List Joint) (fs : List Int) : Prop where
 len : fs.length = js.length
 at' : ∀ (i : Nat) j f, js[i]? = some j → fs[i]? = some f → ∃ hi lo many life, JointT ht dt j f hi lo many life
theorem JointsT.nil {ht dt : List Int} : JointsT ht dt [] [] := ⟨rfl, fun i j f h => by simp at h⟩
theorem JointsT.snoc {ht dt : List Int} {js : List Joint} {fs : List Int} (n : JointsT ht dt js fs) {j : Joint} {f hi lo many life : Int} (h : JointT ht dt j f hi lo many life) : JointsT ht dt (js ++ [j]) (fs ++ [f]) := by
 refine ⟨by simp [n.len], fun i j' f' h1 h2 => ?_⟩
 by_cases hi' : i < js.length
 ·rw [List.getElem?_append_left hi'] at h1
  rw [List.getElem?_append_left (by rw [n.len]; exact hi')] at h2
  exact n.at' i j' f' h1 h2
 have hl := (List.getElem?_eq_some_iff.1 h1).1
 have hi2 : i = js.length := by simp at hl; omega
 subst hi2
 rw [List.getElem?_append_right (by omega)] at h1
 rw [List.getElem?_append_right (by rw [n.len]; omega)] at h2
 simp [n.len] at h1 h2
 subst h1 h2
 exact ⟨_, _, _, _, h⟩
def SeenT (w : Nat) (fs : List Int) (r : Seen) : Prop := 0 ≤ r.joint ∧ r.joint < fs.length ∧ 0 ≤ r.week ∧ r.week < w ∧ r.failed = decide (fs.getD r.joint.toNat 0 ≤ r.week)
structure SeasonT (weeks joints reports : Nat) (s : Season) (ht dt fs : List Int) : Prop where
 w1 : 1 ≤ ht.length
 ww : ht.length ≤ weeks
 dl : dt.length = ht.length
 hn : NearL ht s.heats
 dn : NearL dt s.damps
 hb : ∀ t ∈ ht, -5 ≤ t ∧ t ≤ 35
 db : ∀ t ∈ dt, 30 ≤ t ∧ t ≤ 70
 jl : s.joints.length ≤ joints
 js : JointsT ht dt s.joints fs
 rl : s.reports.length ≤ reports
 rs : ∀ r ∈ s.reports, SeenT ht.length fs r
structure WA where
 i : Int
 x : Nat
 ht : List Int
 dt : List Int
 hs : List Rg
 ds : List Rg
 a1 : Acc
 a2 : Acc
 a3 : Acc
 a4 : Acc
structure WOk (weeks : Nat) (q : WA) : Prop where
 i0 : 0 ≤ q.i
 iw : q.i + q.ht.length ≤ weeks
 pos : 1 ≤ q.i + q.ht.length
 dl : q.dt.length = q.ht.length
 hn : NearL q.ht q.hs
 dn : NearL q.dt q.ds
 hb : ∀ t ∈ q.ht, -5 ≤ t ∧ t ≤ 35
 db : ∀ t ∈ q.dt, 30 ≤ t ∧ t ≤ 70
end Go.Wx
namespace Go.Proofs.YtboigjfgpppeaaaGreatDoor
open Go Go.HL Go.Proofs Go.Wx
variable [Lvl]
set_option maxRecDepth 100000
structure WAc (q : WA) : Prop where
 r1 : AccR 3 1 (q.ht.flatMap intC) q.a1
 r2 : AccR 3 1 (q.dt.flatMap intC) q.a2
 r3 : AccR 56 2 (q.hs.flatMap rgC) q.a3
 r4 : AccR 56 2 (q.ds.flatMap rgC) q.a4
theorem memS {α : Type} {l : List α} {p : α → Prop} (h : ∀ x ∈ l, p x) {y : α} (hy : p y) : ∀ x ∈ l ++ [y], p x := fun x hx => by
 rcases List.mem_append.1 hx with h1 | h1
 ·exact h x h1
 rw [List.mem_singleton.1 h1]; exact hy
structure CutJ where
 x : Nat
 hi : Int
 lo : Int
 A : Option Addr
 c : Nat
 l : List Int
theorem perm_two {α : Type} (l1 l2 l3 : List α) (p q : α) : (l1 ++ p :: (l2 ++ q :: l3)).Perm (p :: q :: (l1 ++ (l2 ++ l3))) := by
 refine List.perm_middle.trans (List.Perm.cons p ?_)
 rw [← List.append_assoc, ← List.append_assoc]
 exact List.perm_middle
theorem wl_two {h : AH} {a p q : Option (Nat × Obj)} (l1 l2 l3 : Pv) (V : Valid h (a :: (l1 ++ p :: (l2 ++ q :: l3)))) : ∃ h', Ext h h' ∧ wl h (a :: (l1 ++ p :: (l2 ++ q :: l3))) = wl h' [a, p, q] ∧ Valid h' [a, p, q] := by
 obtain ⟨e, V'⟩ := wl_perm (L':=[a, p, q] ++ (l1 ++ (l2 ++ l3))) (((perm_two l1 l2 l3 p q).cons a).filterMap _) V
 obtain ⟨h', E, e2, V2⟩ := yY (l1 ++ (l2 ++ l3)) [a, p, q] V'
 exact ⟨h', E, e.trans e2, V2⟩
theorem wl_open {h : AH} {a p q : Option (Nat × Obj)} (V : Valid h [a, p, q]) : ∃ h', Ext h h' ∧ wl h [a, p, q] = wl h' [a] ∧ Valid h' [a] ∧ (∀ b o, p = some (b, o) → h' b = some o) ∧ (∀ b o, q = some (b, o) → h' b = some o) := by
 obtain ⟨h', E, e, V'⟩ := yY [p, q] [a] V
 have key : ∀ z, z ∈ [p, q] → ∀ b o, z = some (b, o) → h' b = some o := by
  intro z hz b o hzb
  have hm : (b, o) ∈ cl [a, p, q] := List.mem_filterMap.2 ⟨z, List.mem_cons_of_mem _ hz, hzb⟩
  have h1 : wl h [a, p, q] b = some o := by
   obtain ⟨i, hi⟩ := List.mem_iff_getElem?.1 (List.mem_cons_of_mem a hz)
   exact zP V (i:=i) (by rw [hi, hzb])
  change wl h [a, p, q] = wl h' [a] at e
  rw [e] at h1
  have ha : ∀ o', a ≠ some (b, o') := by
   intro o' ha
   have nd := V.nd
   subst ha
   have h2 : cl [some (b, o'), p, q] = (b, o') :: cl [p, q] := rfl
   rw [h2, List.map_cons, List.nodup_cons] at nd
   refine nd.1 (List.mem_map.2 ⟨(b, o), List.mem_filterMap.2 ⟨z, hz, hzb⟩, rfl⟩)
  cases a with
  | none =>
   have : wl h' [none] = h' := rfl
   rw [this] at h1; exact h1
  | some c =>
   obtain ⟨b', o'⟩ := c
   have hne : b ≠ b' := fun e => ha o' (by rw [e])
   have : wl h' [some (b', o')] b = h' b := by
    unfold wl wl0
    have : (cl [some (b', o')]).lookup b = none := by
     show List.lookup b [(b', o')] = none
     rw [List.lookup_cons]
     have : (b == b') = false := by simpa using hne
     rw [this]; rfl
    simp only [this]
   rw [this] at h1; exact h1
 exact ⟨h', E, e, V', key p (by simp), key q (by simp)⟩
def wa0 (i : Int) (x : Nat) : WA := ⟨i, x, [], [], [], [], acc0, acc0, acc0, acc0⟩
set_option maxHeartbeats 8000000 in
theorem SeasonOf_okM (b x weeks joints reports : Nat) (hw : 1 ≤ weeks) (hw2 : weeks ≤ 6) (hj : joints ≤ 3) (hr : reports ≤ 100) (h : AH) :
  FnM Tryz.prog (.func (.func 7) #[] ([] : List Value).toArray) [.pointer (some ⟨b, 0, none⟩), .int .i64 weeks, .int .i64 joints, .int .i64 reports] h [some (b, .cells #[.int .u64 (x : Int)] 67 (0, 0))]
  (fun v h' M' => ∃ (x' : Nat) (s : Season) (ht dt fs : List Int) (u w : Value) (a5 a7 : Acc), M' = [some (b, .cells #[.int .u64 (x' : Int)] 67 (0, 0)), a5.p, a7.p] ∧ v = .tuple #[u, w] ∧ SeasonT weeks joints reports s ht dt fs
   ∧ AccR 60 9 (s.joints.flatMap jointC) a5 ∧ AccR 63 3 (s.reports.flatMap seenC) a7
   ∧ (∃ A0 c0 A1 c1, u = .agg #[.slice A0 s.heats.length c0, .slice A1 s.damps.length c1, .slice a5.A s.joints.length a5.c, .slice a7.A s.reports.length a7.c] ∧ Row h' 2 rgC A0 s.heats ∧ Row h' 2 rgC A1 s.damps)
   ∧ ∃ HA hc DA dc FA fc, w = .agg #[.slice HA ht.length hc, .slice DA dt.length dc, .slice FA fs.length fc] ∧ Row h' 1 intC HA ht ∧ Row h' 1 intC DA dt ∧ Row h' 1 intC FA fs) := by
 refine zW rfl rfl Tryz.func7 rfl Tryz.ntmps7 rfl ?_
 refine qC (qA rfl ?_)
 refine wT (cs:=[_, _, _, _]) rfl rfl fun b8 hb8 => ?_
 refine qH [_, _] rfl ?_
 refine wT (cs:=[_, _, _]) rfl rfl fun b9 hb9 => ?_
 refine qH [_, _, _] rfl ?_
 refine qC (qA rfl ?_)
 refine wT (cs:=[_, _, _, _]) rfl rfl fun b10 hb10 => ?_
 refine qH [_, _, _, _] rfl ?_
 refine qC (qA rfl ?_)
 refine wT (cs:=[_, _, _]) rfl rfl fun b11 hb11 => ?_
 refine qH [_, _, _, _, _] rfl ?_
 refine zN ?_
 refine qR [_, _, _, _, _, _] rfl ?_
 refine zN ?_
 refine qR [_, _, _, _, _, _, _] rfl ?_
 refine zN ?_
 refine qR [_, _, _, _, _, _, _, _] rfl ?_
 refine zN ?_
 refine qR [_, _, _, _, _, _, _, _, _] rfl ?_
 refine qC (qC (qA rfl ?_))
 refine qB (qK (v:=.pointer (some ⟨b, 0, none⟩)) rfl) ?_
 refine mvI rfl ?_
 refine zM [] [_] [_, _, _, _, _, _, _, _] (vs:=[.pointer _, .int .i64 _, .int .i64 _]) rfl rfl rfl ((Within_ok b x 1 weeks (by omega) (by omega) (by omega) h)) ?_
 rintro _ h1 _ E1 ⟨x1, i0, rfl, rfl, i01, i02⟩
 refine qH [_, _, _, _, _, _, _, _, _] rfl ?_
 refine asI rfl ?_
 refine qT ?_
 refine yC [12, 13, 14, 30, 31, 32, 33, 34, 35, 36, 37, 38, 39, 40, 41, 42, 43, 44, 45, 46, 47, 48, 49, 50, 51, 52, 53, 54, 55, 56, 57, 58, 59, 60, 61, 62, 63, 64, 65] 9 (α:=WA) (fun q => [(12, .int .i64 q.i)]) (fun q L => ((((((L.set 0 (some (b, .cells #[.int .u64 (q.x : Int)] 67 (0, 0)))).set 3 (some (b10, .cells #[.slice q.a3.A q.a3.n q.a3.c, .slice q.a4.A q.a4.n q.a4.c, .slice none 0 0, .slice none 0 0] 26 (0, 0)))).set 4 (some (b11, .cells #[.slice q.a1.A q.a1.n q.a1.c, .slice q.a2.A q.a2.n q.a2.c, .slice none 0 0] 31 (0, 0)))).set 5 (q.a1.p)).set 6 (q.a2.p)).set 7 (q.a3.p)).set 8 (q.a4.p)) (fun q h_q => WOk weeks q ∧ WAc q) (fun q => q.i.toNat) (wa0 i0 x1) ⟨rfl, trivial⟩ (rfl) (⟨⟨by show 0 ≤ i0; omega, by show i0 + 0 ≤ _; omega, by show 1 ≤ i0 + 0; omega, rfl, NearL.nil, NearL.nil, fun _ h => (by cases h), fun _ h => (by cases h)⟩, ⟨accR0, accR0, accR0, accR0⟩⟩) ?_
 rintro q T1 h_q E_q J_q
 refine qR [_, _, _, _, _, _, _, _, _] rfl ?_
 obtain ⟨⟨j1, j2, j3, j4, j5, j6, j7, j8⟩, ⟨r1, r2, r3, r4⟩⟩ := J_q
 refine qC (qC (qA rfl ?_))
 refine mvI rfl ?_
 refine pvB rfl ?_
 refine qP rfl (fun ht => ?_) (fun ht => ?_)
 ·skip
  have hi : 0 < q.i := of_decide_eq_true ht
  have hl : q.ht.length ≤ 6 := by omega
  refine qM ?_
  refine qC ?_
  refine qT ?_
  refine qC (qA rfl ?_)
  refine qB (qK (v:=.pointer (some ⟨b, 0, none⟩)) rfl) ?_
  refine zM [] [_] [_, _, _, _, _, _, _, _] (vs:=[.pointer _, .int .i64 _, .int .i64 _]) rfl rfl rfl ((Within_ok b q.x (-5) 35 (by omega) (by omega) (by omega) h_q)) ?_
  rintro _ h2 _ E2 ⟨x2, t, rfl, rfl, t1, t2⟩
  refine qH [_, _, _, _, _, _, _, _, _] rfl ?_
  refine qB (qK (v:=.pointer (some ⟨b, 0, none⟩)) rfl) ?_
  refine zM [] [_] [_, _, _, _, _, _, _, _] (vs:=[.pointer _, .int .i64 _, .int .i64 _]) rfl rfl rfl ((Within_ok b x2 30 70 (by omega) (by omega) (by omega) h2)) ?_
  rintro _ h3 _ E3 ⟨x3, d, rfl, rfl, d1, d2⟩
  refine qH [_, _, _, _, _, _, _, _, _] rfl ?_
  refine asI rfl ?_
  refine asI rfl ?_
  refine qC ?_
  refine zL [false, false, false, false, false, true, true] rfl rfl rfl ?_
  refine qE (i:=0) rfl (by decide +kernel) (qD rfl rfl rfl rfl 0 rfl) ?_
  refine wD (i:=1) rfl (by decide +kernel) ?_
  refine qL 4 (v:=.slice _ _ _) rfl rfl rfl rfl ?_
  refine qE (i:=2) rfl (by decide +kernel) (qK (v:=.int .i64 _) rfl) ?_
  refine qE (i:=5) rfl (by decide +kernel) (qD rfl rfl rfl rfl 1 rfl) ?_
  refine wD (i:=6) rfl (by decide +kernel) ?_
  refine qL 4 (v:=.slice _ _ _) rfl rfl rfl rfl ?_
  refine qE (i:=7) rfl (by decide +kernel) (qK (v:=.int .i64 _) rfl) ?_
  refine wZ (i:=3) rfl (by decide +kernel) ?_
  refine wG (zc:=[_]) (vs:=[(0, .int .i64 _)]) (cs:=[_]) rfl rfl rfl rfl rfl rfl rfl fun b41 hb41 => ?_
  refine ⟨vL hb41 _, ?_⟩
  refine wJ [_, _, _, _, _, _, _, _, _, _] rfl ?_
  refine wZ (i:=4) rfl (by decide +kernel) ?_
  refine zE 5 r1 rfl rfl rfl (fun V => rdP V (i:=9) rfl) rfl rfl rfl rfl rfl rfl rfl rfl rfl (by omega) rfl (by rw [wO (m:=1) (fun _ _ => rfl)]; simp; omega) fun a1 h2a E2a ra1 => ?_
  refine ⟨zJ E2a _, ?_⟩
  refine wJ [_, _, _, _, _, _, _, _, _, _] rfl ?_
  refine qE (i:=10) rfl (by decide +kernel) (qD rfl rfl rfl rfl 0 rfl) ?_
  refine wZ (i:=8) rfl (by decide +kernel) ?_
  refine wG (zc:=[_]) (vs:=[(0, .int .i64 _)]) (cs:=[_]) rfl rfl rfl rfl rfl rfl rfl fun b46 hb46 => ?_
  refine ⟨vL hb46 _, ?_⟩
  refine wJ [_, _, _, _, _, _, _, _, _, _, _] rfl ?_
  refine wU (i:=9) rfl (by decide +kernel) (by decide +kernel) ?_
  refine zE 6 r2 rfl rfl rfl (fun V => rdP V (i:=10) rfl) rfl rfl rfl rfl rfl rfl rfl rfl rfl (by omega) rfl (by rw [wO (m:=1) (fun _ _ => rfl)]; simp; omega) fun a2 h3a E3a ra2 => ?_
  refine wJ [_, _, _, _, _, _, _, _, _, _, _] rfl ?_
  refine wU (i:=11) rfl (by decide +kernel) (by decide +kernel) ?_
  refine qS 4 (v:=.slice _ _ _) (vs:=[_]) (c':=[_, _, _]) rfl rfl rfl rfl rfl rfl rfl rfl rfl ?_
  refine wJ [_, _, _, _, _, _, _, _, _, _, _] rfl ?_
  refine qE (i:=12) rfl (by decide +kernel) (qD rfl rfl rfl rfl 1 rfl) ?_
  refine wU (i:=13) rfl (by decide +kernel) (by decide +kernel) ?_
  refine qS 4 (v:=.slice _ _ _) (vs:=[_]) (c':=[_, _, _]) rfl rfl rfl rfl rfl rfl rfl rfl rfl ?_
  refine wJ [_, _, _, _, _, _, _, _, _, _, _] rfl ?_
  refine zB rfl ?_
  refine zL [true, false, false, false, false, false, false, true, true] rfl rfl rfl ?_
  refine qE (i:=0) rfl (by decide +kernel) (qD rfl rfl rfl rfl 0 rfl) ?_
  refine wD (i:=1) rfl (by decide +kernel) ?_
  refine qL 3 (v:=.slice _ _ _) rfl rfl rfl rfl ?_
  refine qE (i:=2) rfl (by decide +kernel) (qK (v:=.pointer (some ⟨b, 0, none⟩)) rfl) ?_
  refine qE (i:=3) rfl (by decide +kernel) (qK (v:=.int .i64 _) rfl) ?_
  refine qE (i:=7) rfl (by decide +kernel) (qD rfl rfl rfl rfl 1 rfl) ?_
  refine wD (i:=8) rfl (by decide +kernel) ?_
  refine qL 3 (v:=.slice _ _ _) rfl rfl rfl rfl ?_
  refine qE (i:=9) rfl (by decide +kernel) (qK (v:=.pointer (some ⟨b, 0, none⟩)) rfl) ?_
  refine qE (i:=10) rfl (by decide +kernel) (qK (v:=.int .i64 _) rfl) ?_
  refine wZ (i:=4) rfl (by decide +kernel) ?_
  refine zM [] [_] [_, _, _, _, _, _, _, _, _, _] (vs:=[.pointer _, .int .i64 _, .int .i64 _, .int .i64 _, .int .i64 _]) rfl rfl rfl ((Near_ok b x3 t (-50) 100 1 (by omega) (by omega) h3a)) ?_
  rintro _ h4 _ E4 ⟨x4, u4, w4, rfl, rfl, u41, u42, w41, w42⟩
  refine ⟨zJ E4 _, ?_⟩
  refine wJ [_, _, _, _, _, _, _, _, _, _, _] rfl ?_
  refine wZ (i:=5) rfl (by decide +kernel) ?_
  refine wG (zc:=[_, _]) (vs:=[(0, .agg #[.int .i64 _, .int .i64 _])]) (cs:=[_, _]) rfl rfl rfl rfl rfl rfl rfl fun b55 hb55 => ?_
  refine ⟨vL hb55 _, ?_⟩
  refine wJ [_, _, _, _, _, _, _, _, _, _, _, _] rfl ?_
  refine wZ (i:=6) rfl (by decide +kernel) ?_
  refine zE 7 r3 rfl rfl rfl (fun V => rdP V (i:=11) rfl) rfl rfl rfl rfl rfl rfl rfl rfl rfl (by omega) rfl (by rw [wO (m:=2) (fun _ _ => rfl), j5.len]; simp; omega) fun a3 h4a E4a ra3 => ?_
  refine ⟨zJ E4a _, ?_⟩
  refine wJ [_, _, _, _, _, _, _, _, _, _, _, _] rfl ?_
  refine qE (i:=14) rfl (by decide +kernel) (qD rfl rfl rfl rfl 0 rfl) ?_
  refine wZ (i:=11) rfl (by decide +kernel) ?_
  refine zM [] [_] [_, _, _, _, _, _, _, _, _, _, _] (vs:=[.pointer _, .int .i64 _, .int .i64 _, .int .i64 _, .int .i64 _]) rfl rfl rfl ((Near_ok b x4 d (-50) 100 1 (by omega) (by omega) h4a)) ?_
  rintro _ h5 _ E5 ⟨x5, u5, w5, rfl, rfl, u51, u52, w51, w52⟩
  refine ⟨zJ E5 _, ?_⟩
  refine wJ [_, _, _, _, _, _, _, _, _, _, _, _] rfl ?_
  refine wZ (i:=12) rfl (by decide +kernel) ?_
  refine wG (zc:=[_, _]) (vs:=[(0, .agg #[.int .i64 _, .int .i64 _])]) (cs:=[_, _]) rfl rfl rfl rfl rfl rfl rfl fun b62 hb62 => ?_
  refine ⟨vL hb62 _, ?_⟩
  refine wJ [_, _, _, _, _, _, _, _, _, _, _, _, _] rfl ?_
  refine wU (i:=13) rfl (by decide +kernel) (by decide +kernel) ?_
  refine zE 8 r4 rfl rfl rfl (fun V => rdP V (i:=12) rfl) rfl rfl rfl rfl rfl rfl rfl rfl rfl (by omega) rfl (by rw [wO (m:=2) (fun _ _ => rfl), j6.len, j4]; simp; omega) fun a4 h5a E5a ra4 => ?_
  refine wJ [_, _, _, _, _, _, _, _, _, _, _, _, _] rfl ?_
  refine wU (i:=15) rfl (by decide +kernel) (by decide +kernel) ?_
  refine qS 3 (v:=.slice _ _ _) (vs:=[_]) (c':=[_, _, _, _]) rfl rfl rfl rfl rfl rfl rfl rfl rfl ?_
  refine wJ [_, _, _, _, _, _, _, _, _, _, _, _, _] rfl ?_
  refine qE (i:=16) rfl (by decide +kernel) (qD rfl rfl rfl rfl 1 rfl) ?_
  refine wU (i:=17) rfl (by decide +kernel) (by decide +kernel) ?_
  refine qS 3 (v:=.slice _ _ _) (vs:=[_]) (c':=[_, _, _, _]) rfl rfl rfl rfl rfl rfl rfl rfl rfl ?_
  refine wJ [_, _, _, _, _, _, _, _, _, _, _, _, _] rfl ?_
  refine zB rfl ?_
  refine qA rfl ?_
  refine mvI rfl ?_
  refine qB (qO rfl (by omega)) ?_
  refine asI rfl ?_
  refine ⟨⟨q.i - 1, x5, q.ht ++ [t], q.dt ++ [d], q.hs ++ [⟨max (-50) (t - u4), min 100 (t + w4)⟩], q.ds ++ [⟨max (-50) (d - u5), min 100 (d + w5)⟩], a1, a2, a3, a4⟩, ⟨rfl, trivial⟩, rfl, rfl, (kX (kX (kX (kX (kX (kX (kX (kX E_q E2) E3) E2a) E3a) E4) E4a) E5) E5a), fun h3 E3 => ⟨⟨by show 0 ≤ q.i - 1; omega, by show q.i - 1 + ((q.ht ++ [t]).length : Nat) ≤ _; simp; omega, by show 1 ≤ q.i - 1 + ((q.ht ++ [t]).length : Nat); simp; omega, by simp [j4], j5.snoc ⟨u4, w4, u41, u42, w41, w42, rfl⟩, j6.snoc ⟨u5, w5, u51, u52, w51, w52, rfl⟩, memS j7 ⟨t1, t2⟩, memS j8 ⟨d1, d2⟩⟩, ⟨by rw [List.flatMap_append]; exact ra1, by rw [List.flatMap_append]; exact ra2, by rw [List.flatMap_append]; exact ra3, by rw [List.flatMap_append]; exact ra4⟩⟩, by first | omega | (dsimp only; omega), ?_⟩
  repeat (first | exact qV _ _ _ | refine qX (by decide) ?_ | refine qU rfl ?_ | refine qY rfl ?_)
 skip
 have hi0 : q.i = 0 := by have := of_decide_eq_false ht; omega
 obtain ⟨qi, qx, wt, dt, hs, ds, ⟨p1, A1, n1, c1⟩, ⟨p2, A2, n2, c2⟩, ⟨p3, A3, n3, c3⟩, ⟨p4, A4, n4, c4⟩⟩ := q
 dsimp only at *
 have hwl : wt.length ≤ 6 := by omega
 obtain rfl : n1 = wt.length := by have := AccR.len r1; rw [wO (m:=1) (fun _ _ => rfl)] at this; dsimp only at this; omega
 obtain rfl : n2 = dt.length := by have := AccR.len r2; rw [wO (m:=1) (fun _ _ => rfl)] at this; dsimp only at this; omega
 obtain rfl : n3 = hs.length := by have := AccR.len r3; rw [wO (m:=2) (fun _ _ => rfl)] at this; dsimp only at this; omega
 obtain rfl : n4 = ds.length := by have := AccR.len r4; rw [wO (m:=2) (fun _ _ => rfl)] at this; dsimp only at this; omega
 refine yD 5 rfl ?_
 intro g1 G1 P1
 refine qR [_, _, _, _, _, _, _, _, _] rfl ?_
 refine yD 6 rfl ?_
 intro g2 G2 P2
 refine qR [_, _, _, _, _, _, _, _, _] rfl ?_
 refine yD 7 rfl ?_
 intro g3 G3 P3
 refine qR [_, _, _, _, _, _, _, _, _] rfl ?_
 refine yD 8 rfl ?_
 intro g4 G4 P4
 refine qR [_, _, _, _, _, _, _, _, _] rfl ?_
 have R1 : Row g4 1 intC A1 wt := ⟨fun _ _ => rfl, (AccR.rd r1 P1).ext (kX (kX G2 G3) G4)⟩
 have R2 : Row g4 1 intC A2 dt := ⟨fun _ _ => rfl, (AccR.rd r2 P2).ext (kX G3 G4)⟩
 have R3 : Row g4 2 rgC A3 hs := ⟨fun _ _ => rfl, (AccR.rd r3 P3).ext G4⟩
 have R4 : Row g4 2 rgC A4 ds := ⟨fun _ _ => rfl, AccR.rd r4 P4⟩
 refine zN ?_
 refine qR [_, _, _, _, _, _, _, _, _, _] rfl ?_
 refine zN ?_
 refine qR [_, _, _, _, _, _, _, _, _, _, _] rfl ?_
 refine wV ?_
 refine qC (qC (qA rfl ?_))
 refine qB (qK (v:=.pointer (some ⟨b, 0, none⟩)) rfl) ?_
 refine mvI rfl ?_
 refine zM [] [_] [_, _, _, _, _, _, _, _, _, _] (vs:=[.pointer _, .int .i64 _]) rfl rfl rfl ((Upto_ok b qx joints (by omega) g4)) ?_
 rintro _ k1 _ F1 ⟨y1, i1, rfl, rfl, i11, i12⟩
 refine qH [_, _, _, _, _, _, _, _, _, _, _] rfl ?_
 refine asI rfl ?_
 refine qT ?_
 refine yC [15, 16, 17, 18, 19, 20, 21, 22, 23, 24, 25, 69, 70, 71, 72, 73, 74, 75, 76, 77, 78, 79, 80, 81, 82, 83, 84, 85, 86, 87, 88, 89, 90, 91, 92, 93, 94, 95, 96, 97, 98, 99, 100, 101, 102, 103, 104, 105, 106, 107, 108, 109, 110, 111, 112, 113, 114, 115, 116, 117, 118, 119, 120, 121, 122, 123, 124, 125, 126, 127, 128, 129, 130, 131, 132, 133, 134, 135, 136, 137, 138, 139, 140, 141, 142, 143, 144, 145, 146, 147, 148, 149, 150, 151, 152, 153, 154, 155, 156, 157, 158, 159, 160, 161, 162, 163, 164, 165, 166, 167, 168, 169, 170, 171, 172] 11 (α:=Int × Nat × List Joint × List Int × Acc × Acc) (fun ⟨i, y, js, fs, a5, a6⟩ => [(15, .int .i64 i)]) (fun ⟨i, y, js, fs, a5, a6⟩ L => ((((L.set 0 (some (b, .cells #[.int .u64 (y : Int)] 67 (0, 0)))).set 3 (some (b10, .cells #[.slice A3 hs.length c3, .slice A4 ds.length c4, .slice a5.A a5.n a5.c, .slice none 0 0] 26 (0, 0)))).set 4 (some (b11, .cells #[.slice A1 wt.length c1, .slice A2 dt.length c2, .slice a6.A a6.n a6.c] 31 (0, 0)))).set 9 (a5.p)).set 10 (a6.p)) (fun ⟨i, y, js, fs, a5, a6⟩ h_i => (0 ≤ i ∧ i + js.length ≤ joints) ∧ JointsT wt dt js fs ∧ AccR 60 9 (js.flatMap jointC) a5 ∧ AccR 3 1 (fs.flatMap intC) a6) (fun ⟨i, y, js, fs, a5, a6⟩ => i.toNat) ((i1, y1, [], [], acc0, acc0)) ⟨rfl, trivial⟩ (rfl) (⟨⟨i11, by simp; omega⟩, JointsT.nil, accR0, accR0⟩) ?_
 rintro ⟨i, y, js, fs, a5, a6⟩ T6 h_i E_i J_i
 refine qR [_, _, _, _, _, _, _, _, _, _, _] rfl ?_
 obtain ⟨⟨m1, m2⟩, m3, r5, r6⟩ := J_i
 have fl := m3.len
 refine qC (qC (qA rfl ?_))
 refine mvI rfl ?_
 refine pvB rfl ?_
 refine qP rfl (fun ht2 => ?_) (fun ht2 => ?_)
 ·skip
  have hi2 : 0 < i := of_decide_eq_true ht2
  refine qM ?_
  refine qC ?_
  refine qT ?_
  refine qC (qA rfl ?_)
  refine qB (qK (v:=.pointer (some ⟨b, 0, none⟩)) rfl) ?_
  refine zM [] [_] [_, _, _, _, _, _, _, _, _, _] (vs:=[.pointer _, .int .i64 _, .int .i64 _]) rfl rfl rfl ((Within_ok b y 1 2 (by omega) (by omega) (by omega) h_i)) ?_
  rintro _ k2 _ F2 ⟨y2, kd, rfl, rfl, kd1, kd2⟩
  refine qH [_, _, _, _, _, _, _, _, _, _, _] rfl ?_
  refine qB (zD (zc:=[_, _, _, _, _, _, _, _, _]) (vs:=[(0, .int .i64 _)]) (cs:=[_, _, _, _, _, _, _, _, _]) rfl rfl rfl rfl rfl rfl) ?_
  refine wT (cs:=[_, _, _, _, _, _, _, _, _]) rfl rfl fun b16 hb16 => ?_
  refine qH [_, _, _, _, _, _, _, _, _, _, _, _] rfl ?_
  refine qS 11 (v:=.agg #[.int .i64 _, .int .i64 _, .int .i64 _, .int .i64 _, .int .i64 _, .int .i64 _, .int .i64 _, .int .i64 _, .int .i64 _]) (vs:=[_, _, _, _, _, _, _, _, _]) (c':=[_, _, _, _, _, _, _, _, _]) rfl rfl rfl rfl rfl rfl rfl rfl rfl ?_
  refine qH [_, _, _, _, _, _, _, _, _, _, _, _] rfl ?_
  refine qC ?_
  refine zL [true] rfl rfl rfl ?_
  refine qE (i:=0) rfl (by decide +kernel) (qD rfl rfl rfl rfl 0 rfl) ?_
  refine wD (i:=1) rfl (by decide +kernel) ?_
  refine qL 4 (v:=.slice _ _ _) rfl rfl rfl rfl ?_
  refine qE (i:=2) rfl (by decide +kernel) (qK (v:=.pointer (some ⟨b, 0, none⟩)) rfl) ?_
  refine qE (i:=4) rfl (by decide +kernel) (qK (v:=.pointer (some ⟨b, 0, none⟩)) rfl) ?_
  refine wZ (i:=3) rfl (by decide +kernel) ?_
  refine zM [] [_] [_, _, _, _, _, _, _, _, _, _, _] (vs:=[.pointer _, .int .i64 _, .int .i64 _]) rfl rfl rfl ((Within_ok b y2 25 38 (by omega) (by omega) (by omega) k2)) ?_
  rintro _ k3 _ F3 ⟨y3, hi3, rfl, rfl, hi31, hi32⟩
  refine ⟨zJ F3 _, ?_⟩
  refine wJ [_, _, _, _, _, _, _, _, _, _, _, _] rfl ?_
  refine wZ (i:=5) rfl (by decide +kernel) ?_
  refine zM [] [_] [_, _, _, _, _, _, _, _, _, _, _] (vs:=[.pointer _, .int .i64 _, .int .i64 _]) rfl rfl rfl ((Within_ok b y3 (-5) 8 (by omega) (by omega) (by omega) k3)) ?_
  rintro _ k4 _ F4 ⟨y4, lo4, rfl, rfl, lo41, lo42⟩
  refine ⟨zJ F4 _, ?_⟩
  refine wJ [_, _, _, _, _, _, _, _, _, _, _, _] rfl ?_
  refine qE (i:=6) rfl (by decide +kernel) (wA (v:=.slice _ _ _) rfl) ?_
  refine qE (i:=7) rfl (by decide +kernel) (wA (v:=.int .i64 _) rfl) ?_
  refine qE (i:=8) rfl (by decide +kernel) (wA (v:=.int .i64 _) rfl) ?_
  refine zB rfl ?_
  refine zU [17, 18, 19, 82, 83, 84, 85, 86, 87, 88, 89, 90] 12 (α:=CutJ) (fun z => [(17, .slice z.A z.l.length z.c), (18, .int .i64 z.hi), (19, .int .i64 z.lo)]) (fun z L => L.set 0 (some (b, .cells #[.int .u64 (z.x : Int)] 67 (0, 0)))) (fun z h_z => Row h_z 1 intC z.A z.l ∧ ((kd = 1 ∧ z.l = wt ∧ 25 ≤ z.hi ∧ z.hi ≤ 38 ∧ -5 ≤ z.lo ∧ z.lo ≤ 8) ∨ (kd = 2 ∧ z.l = dt ∧ 60 ≤ z.hi ∧ z.hi ≤ 72 ∧ 28 ≤ z.lo ∧ z.lo ≤ 42))) ?_ ?_
  ·skip
   refine qC (qA rfl ?_)
   refine qB (qD rfl rfl rfl rfl 0 rfl) ?_
   refine qL 11 (v:=.int .i64 _) rfl rfl rfl rfl ?_
   refine pvB rfl ?_
   refine qP rfl (fun hkd => ?_) (fun hkd => ?_)
   ·skip
    have hkd' : kd = 2 := by simpa using hkd
    refine zL [true] rfl rfl rfl ?_
    refine qE (i:=0) rfl (by decide +kernel) (qD rfl rfl rfl rfl 1 rfl) ?_
    refine wD (i:=1) rfl (by decide +kernel) ?_
    refine qL 4 (v:=.slice _ _ _) rfl rfl rfl rfl ?_
    refine qE (i:=2) rfl (by decide +kernel) (qK (v:=.pointer (some ⟨b, 0, none⟩)) rfl) ?_
    refine qE (i:=4) rfl (by decide +kernel) (qK (v:=.pointer (some ⟨b, 0, none⟩)) rfl) ?_
    refine wZ (i:=3) rfl (by decide +kernel) ?_
    refine zM [] [_] [_, _, _, _, _, _, _, _, _, _, _] (vs:=[.pointer _, .int .i64 _, .int .i64 _]) rfl rfl rfl ((Within_ok b y4 60 72 (by omega) (by omega) (by omega) k4)) ?_
    rintro _ k5 _ F5 ⟨y5, hi5, rfl, rfl, hi51, hi52⟩
    refine ⟨zJ F5 _, ?_⟩
    refine wJ [_, _, _, _, _, _, _, _, _, _, _, _] rfl ?_
    refine wZ (i:=5) rfl (by decide +kernel) ?_
    refine zM [] [_] [_, _, _, _, _, _, _, _, _, _, _] (vs:=[.pointer _, .int .i64 _, .int .i64 _]) rfl rfl rfl ((Within_ok b y5 28 42 (by omega) (by omega) (by omega) k5)) ?_
    rintro _ k6 _ F6 ⟨y6, lo6, rfl, rfl, lo61, lo62⟩
    refine ⟨zJ F6 _, ?_⟩
    refine wJ [_, _, _, _, _, _, _, _, _, _, _, _] rfl ?_
    refine qE (i:=6) rfl (by decide +kernel) (wA (v:=.slice _ _ _) rfl) ?_
    refine qE (i:=7) rfl (by decide +kernel) (wA (v:=.int .i64 _) rfl) ?_
    refine qE (i:=8) rfl (by decide +kernel) (wA (v:=.int .i64 _) rfl) ?_
    refine zB rfl ?_
    refine ⟨⟨y6, hi5, lo6, A2, c2, dt⟩, ⟨rfl, rfl, rfl, trivial⟩, rfl, rfl, (kX F5 F6), fun h3 E3 => ⟨(R2.ext (kX (kX (kX (kX (kX (kX F1 E_i) F2) F3) F4) F5) F6)).ext E3, .inr ⟨hkd', rfl, hi51, hi52, lo61, lo62⟩⟩, ?_⟩
    repeat (first | exact wQ _ _ | exact qV _ _ _ | refine qX (by decide) ?_ | refine qU rfl ?_ | refine qY rfl ?_)
   skip
   have hkd0 : ¬ kd = 2 := by simpa using hkd
   have hkd' : kd = 1 := by omega
   refine qM ?_
   refine ⟨⟨y4, hi3, lo4, A1, c1, wt⟩, ⟨rfl, rfl, rfl, trivial⟩, rfl, rfl, (Ext.refl _), fun h3 E3 => ⟨(R1.ext (kX (kX (kX (kX F1 E_i) F2) F3) F4)).ext E3, .inl ⟨hkd', rfl, hi31, hi32, lo41, lo42⟩⟩, ?_⟩
   repeat (first | exact wQ _ _ | exact qV _ _ _ | refine qX (by decide) ?_ | refine qU rfl ?_ | refine qY rfl ?_)
  rintro z T7 h_z E_z J_z
  refine qR [_, _, _, _, _, _, _, _, _, _, _, _] rfl ?_
  obtain ⟨zx, hi, lo, WA', wc, l⟩ := z
  dsimp only at *
  obtain ⟨RW, hcase⟩ := J_z
  have hll : l.length = wt.length := by
   rcases hcase with h | h
   ·rw [h.2.1]
   rw [h.2.1, j4]
  have hhi : 25 ≤ hi ∧ hi ≤ 72 := by omega
  have hlo : -5 ≤ lo ∧ lo ≤ 42 := by omega
  refine qC (qA rfl ?_)
  refine qB (qK (v:=.pointer (some ⟨b, 0, none⟩)) rfl) ?_
  refine zM [] [_] [_, _, _, _, _, _, _, _, _, _, _] (vs:=[.pointer _, .int .i64 _, .int .i64 _]) rfl rfl rfl ((Within_ok b zx 1 3 (by omega) (by omega) (by omega) h_z)) ?_
  rintro _ k7 _ F7 ⟨y7, many, rfl, rfl, many1, many2⟩
  refine qH [_, _, _, _, _, _, _, _, _, _, _, _] rfl ?_
  refine qB (qK (v:=.pointer (some ⟨b, 0, none⟩)) rfl) ?_
  refine qB (qK (v:=.pointer (some ⟨b, 0, none⟩)) rfl) ?_
  refine zM [] [_] [_, _, _, _, _, _, _, _, _, _, _] (vs:=[.pointer _, .int .i64 _]) rfl rfl rfl ((Upto_ok b y7 9 (by omega) k7)) ?_
  rintro _ k8 _ F8 ⟨y8, u8, rfl, rfl, u81, u82⟩
  refine qH [_, _, _, _, _, _, _, _, _, _, _, _] rfl ?_
  refine wG (zc:=[_]) (vs:=[(0, .int .i64 _), (1, .int .i64 _)]) (cs:=[_, _]) rfl rfl rfl rfl rfl rfl rfl fun b96 hb96 => ?_
  refine qH [_, _, _, _, _, _, _, _, _, _, _, _, _] rfl ?_
  refine wp_pub 12 rfl rfl ?_
  intro k9 F9 p9
  refine qH [_, _, _, _, _, _, _, _, _, _, _, _, _] rfl ?_
  refine zM [] [_] [_, _, _, _, _, _, _, _, _, _, _, _] (vs:=[.pointer _, .slice _ _ _]) rfl rfl rfl ((Of_ok b y8 [u8, 9] (by simp) (by simp) _ _ k9 (yG (enc:=intC) (m:=1) (l:=[u8, 9]) (fun _ _ => rfl) p9))) ?_
  rintro _ k10 _ F10 ⟨y10, life, rfl, rfl, lifem⟩
  refine qH [_, _, _, _, _, _, _, _, _, _, _, _, _] rfl ?_
  have hlife : 0 ≤ life ∧ life ≤ 9 := by simp at lifem; omega
  refine asI rfl ?_
  refine asI rfl ?_
  refine qC (qA rfl ?_)
  refine qB (qK (v:=.pointer (some ⟨b, 0, none⟩)) rfl) ?_
  refine mvI rfl ?_
  refine zM [] [_] [_, _, _, _, _, _, _, _, _, _, _, _] (vs:=[.pointer _, .int .i64 _, .int .i64 _, .int .i64 _, .int .i64 _]) rfl rfl rfl ((Near_ok b y10 hi (-50) 100 1 (by omega) (by omega) k10)) ?_
  rintro _ k11 _ F11 ⟨y11, u11, w11, rfl, rfl, u111, u112, w111, w112⟩
  refine qH [_, _, _, _, _, _, _, _, _, _, _, _, _] rfl ?_
  refine qB (qK (v:=.pointer (some ⟨b, 0, none⟩)) rfl) ?_
  refine mvI rfl ?_
  refine zM [] [_] [_, _, _, _, _, _, _, _, _, _, _, _] (vs:=[.pointer _, .int .i64 _, .int .i64 _, .int .i64 _, .int .i64 _]) rfl rfl rfl ((Near_ok b y11 lo (-50) 100 1 (by omega) (by omega) k11)) ?_
  rintro _ k12 _ F12 ⟨y12, u12, w12, rfl, rfl, u121, u122, w121, w122⟩
  refine qH [_, _, _, _, _, _, _, _, _, _, _, _, _] rfl ?_
  refine qB (qD rfl rfl rfl rfl 1 rfl) ?_
  refine qS 11 (v:=.agg #[.int .i64 _, .int .i64 _]) (vs:=[_, _]) (c':=[_, _, _, _, _, _, _, _, _]) rfl rfl rfl rfl rfl rfl rfl rfl rfl ?_
  refine qH [_, _, _, _, _, _, _, _, _, _, _, _, _] rfl ?_
  refine qB (qD rfl rfl rfl rfl 3 rfl) ?_
  refine qS 11 (v:=.agg #[.int .i64 _, .int .i64 _]) (vs:=[_, _]) (c':=[_, _, _, _, _, _, _, _, _]) rfl rfl rfl rfl rfl rfl rfl rfl rfl ?_
  refine qH [_, _, _, _, _, _, _, _, _, _, _, _, _] rfl ?_
  refine qC (qA rfl ?_)
  refine qB (qK (v:=.pointer (some ⟨b, 0, none⟩)) rfl) ?_
  refine mvI rfl ?_
  refine zM [] [_] [_, _, _, _, _, _, _, _, _, _, _, _] (vs:=[.pointer _, .int .i64 _, .int .i64 _, .int .i64 _, .int .i64 _]) rfl rfl rfl ((Near_ok b y12 many 1 6 1 (by omega) (by omega) k12)) ?_
  rintro _ k13 _ F13 ⟨y13, u13, w13, rfl, rfl, u131, u132, w131, w132⟩
  refine qH [_, _, _, _, _, _, _, _, _, _, _, _, _] rfl ?_
  refine qB (qK (v:=.pointer (some ⟨b, 0, none⟩)) rfl) ?_
  refine mvI rfl ?_
  refine zM [] [_] [_, _, _, _, _, _, _, _, _, _, _, _] (vs:=[.pointer _, .int .i64 _, .int .i64 _, .int .i64 _, .int .i64 _]) rfl rfl rfl ((Near_ok b y13 life 0 9 2 (by omega) (by omega) k13)) ?_
  rintro _ k14 _ F14 ⟨y14, u14, w14, rfl, rfl, u141, u142, w141, w142⟩
  refine qH [_, _, _, _, _, _, _, _, _, _, _, _, _] rfl ?_
  refine qB (qD rfl rfl rfl rfl 5 rfl) ?_
  refine qS 11 (v:=.agg #[.int .i64 _, .int .i64 _]) (vs:=[_, _]) (c':=[_, _, _, _, _, _, _, _, _]) rfl rfl rfl rfl rfl rfl rfl rfl rfl ?_
  refine qH [_, _, _, _, _, _, _, _, _, _, _, _, _] rfl ?_
  refine qB (qD rfl rfl rfl rfl 7 rfl) ?_
  refine qS 11 (v:=.agg #[.int .i64 _, .int .i64 _]) (vs:=[_, _]) (c':=[_, _, _, _, _, _, _, _, _]) rfl rfl rfl rfl rfl rfl rfl rfl rfl ?_
  refine qH [_, _, _, _, _, _, _, _, _, _, _, _, _] rfl ?_
  refine qC (qA rfl ?_)
  refine qB (qD rfl rfl rfl rfl 2 rfl) ?_
  refine qL 3 (v:=.slice _ _ _) rfl rfl rfl rfl ?_
  refine qZ 11 (vs:=[.int .i64 _, .int .i64 _, .int .i64 _, .int .i64 _, .int .i64 _, .int .i64 _, .int .i64 _, .int .i64 _, .int .i64 _]) rfl rfl rfl rfl rfl ?_
  refine wG (zc:=[_, _, _, _, _, _, _, _, _]) (vs:=[(0, .agg #[.int .i64 _, .int .i64 _, .int .i64 _, .int .i64 _, .int .i64 _, .int .i64 _, .int .i64 _, .int .i64 _, .int .i64 _])]) (cs:=[_, _, _, _, _, _, _, _, _]) rfl rfl rfl rfl rfl rfl rfl fun b117 hb117 => ?_
  refine qH [_, _, _, _, _, _, _, _, _, _, _, _, _, _] rfl ?_
  refine zE 9 r5 rfl rfl rfl (fun V => rdP V (i:=13) rfl) rfl rfl rfl rfl rfl rfl rfl rfl rfl (by omega) rfl (by rw [wO (m:=9) (fun _ _ => rfl)]; simp; omega) fun a5' h8a E8a ra5 => ?_
  refine qH [_, _, _, _, _, _, _, _, _, _, _, _, _, _] rfl ?_
  refine qB (qD rfl rfl rfl rfl 2 rfl) ?_
  refine qS 3 (v:=.slice _ _ _) (vs:=[_]) (c':=[_, _, _, _]) rfl rfl rfl rfl rfl rfl rfl rfl rfl ?_
  refine qH [_, _, _, _, _, _, _, _, _, _, _, _, _, _] rfl ?_
  refine qC (qA rfl ?_)
  refine mvS rfl ?_
  refine qB (wP rfl rfl) ?_
  refine asI rfl ?_
  refine asI rfl ?_
  refine qC (qC (qA rfl ?_))
  refine mvS rfl ?_
  refine qB (wP rfl rfl) ?_
  refine qB (qO rfl (by omega)) ?_
  refine asI rfl ?_
  refine qT ?_
  refine zF [22, 23, 24, 25, 125, 126, 127, 128, 129, 130, 131, 132, 133, 134, 135, 136, 137, 138, 139, 140, 141, 142, 143, 144, 145, 146, 147, 148, 149, 150, 151, 152, 153, 154, 155, 156, 157, 158, 159, 160, 161, 162, 163, 164, 165, 166] 14 (α:=Nat) (fun kk => [(24, .int .i64 ((l.length : Int) - 1 - kk)), (22, .int .i64 (failP l hi lo many life kk : Nat))]) (fun kk => _) (fun kk h_kk => kk ≤ l.length) (fun kk => l.length - kk) (0) ⟨intE (by omega), rfl, trivial⟩ (rfl) (Nat.zero_le _) ?_
  rintro kk T9 h_kk E_kk J_kk
  refine qR [_, _, _, _, _, _, _, _, _, _, _, _, _, _] rfl ?_
  refine qC (qC (qA rfl ?_))
  refine mvI rfl ?_
  refine pvB rfl ?_
  refine qP rfl (fun hw3 => ?_) (fun hw3 => ?_)
  ·skip
   have hkl : kk < l.length := by have := of_decide_eq_true hw3; omega
   have hwn : l.length - (kk + 1) < l.length := by omega
   have hsub : (l.length : Int) - 1 - kk = ((l.length - (kk + 1) : Nat) : Int) := by omega
   rw [hsub]
   have hgd : l.getD (l.length - (kk + 1)) 0 = l[l.length - (kk + 1)] := by rw [List.getD_eq_getElem?_getD, List.getElem?_eq_getElem hwn]; rfl
   refine qM ?_
   refine qC ?_
   refine qT ?_
   refine qC (qA rfl ?_)
   refine asI rfl ?_
   refine qC (qC (qA rfl ?_))
   refine asI rfl ?_
   refine qT ?_
   refine zF [23, 25, 129, 130, 131, 132, 133, 134, 135, 136, 137, 138, 139, 140, 141] 14 (α:=Nat) (fun v => [(25, .int .i64 v), (23, .int .i64 (coldN l lo v : Nat))]) (fun v => _) (fun v h_v => v ≤ l.length - (kk + 1) + 1) (fun v => l.length - (kk + 1) + 1 - v) (0) ⟨rfl, intE (by simp [coldN]), trivial⟩ (rfl) (Nat.zero_le _) ?_
   rintro v T10 h_v E_v J_v
   refine qR [_, _, _, _, _, _, _, _, _, _, _, _, _, _] rfl ?_
   have hcn := coldN_le l lo v
   refine qC (qC (qA rfl ?_))
   refine mvI rfl ?_
   refine mvI rfl ?_
   refine pvB rfl ?_
   refine qP rfl (fun hv3 => ?_) (fun hv3 => ?_)
   ·skip
    have hvl : v < l.length := by have := of_decide_eq_true hv3; omega
    have hvw : v ≤ l.length - (kk + 1) := by have := of_decide_eq_true hv3; omega
    have hcs := coldN_succ (x:=l) (lo:=lo) hvl
    obtain ⟨gv, offv, hAv, hcv⟩ := (RW.ext (kX (kX (kX (kX (kX (kX (kX (kX (kX (kX F7 F8) F9) F10) F11) F12) F13) F14) E8a) E_kk) E_v)).at (by omega) hvl
    refine qM ?_
    refine qC ?_
    refine qT ?_
    refine qC (qA rfl ?_)
    refine mvS rfl ?_
    refine mvI rfl ?_
    refine qB (wK rfl hAv rfl rfl rfl (by omega) (by omega)) ?_
    refine wX (v:=.int .i64 _) rfl rfl ((hcv) 0 _ rfl) ?_
    refine mvI rfl ?_
    refine pvB rfl ?_
    refine qP rfl (fun hcold => ?_) (fun hcold => ?_)
    ·skip
     have hc1 : l[v] ≤ lo := of_decide_eq_true hcold
     refine qA rfl ?_
     refine mvI rfl ?_
     refine qB (qO rfl (by omega)) ?_
     refine asI rfl ?_
     refine qA rfl ?_
     refine mvI rfl ?_
     refine qB (qO rfl (by omega)) ?_
     refine asI rfl ?_
     refine ⟨v + 1, ⟨rfl, intE (by rw [hcs, if_pos hc1]; simp), trivial⟩, rfl, rfl, E_v, fun h3 E3 => by omega, by first | omega | (dsimp only; omega), ?_⟩
     repeat (first | exact qV _ _ _ | refine qX (by decide) ?_ | refine qU rfl ?_ | refine qY rfl ?_)
    skip
    have hc1 : ¬ l[v] ≤ lo := of_decide_eq_false hcold
    refine qM ?_
    refine qA rfl ?_
    refine mvI rfl ?_
    refine qB (qO rfl (by omega)) ?_
    refine asI rfl ?_
    refine ⟨v + 1, ⟨rfl, intE (by rw [hcs, if_neg hc1]; simp), trivial⟩, rfl, rfl, E_v, fun h3 E3 => by omega, by first | omega | (dsimp only; omega), ?_⟩
    repeat (first | exact qV _ _ _ | refine qX (by decide) ?_ | refine qU rfl ?_ | refine qY rfl ?_)
   skip
   have hve : v = l.length - (kk + 1) + 1 := by have := of_decide_eq_false hv3; omega
   subst hve
   obtain ⟨gw, offw, hAw, hcw⟩ := (RW.ext (kX (kX (kX (kX (kX (kX (kX (kX (kX (kX F7 F8) F9) F10) F11) F12) F13) F14) E8a) E_kk) E_v)).at (by omega) hwn
   have hfp : failP l hi lo many life (kk + 1) = if failW l hi lo many life (l.length - (kk + 1)) then l.length - (kk + 1) else failP l hi lo many life kk := rfl
   refine wV ?_
   refine qC (qA rfl ?_)
   refine mvS rfl ?_
   refine mvI rfl ?_
   refine qB (wK rfl hAw rfl rfl rfl (by omega) (by omega)) ?_
   refine wX (v:=.int .i64 _) rfl rfl ((hcw) 0 _ rfl) ?_
   refine mvI rfl ?_
   refine pvB rfl ?_
   refine mvB rfl ?_
   rcases Bool.eq_false_or_eq_true (decide (l[l.length - (kk + 1)] ≥ hi)) with c1 | c1
   ·skip
    have hfw : failW l hi lo many life (l.length - (kk + 1)) = true := by unfold failW; rw [hgd, c1]; rfl
    refine qI rfl c1 ?_
    refine qI rfl c1 ?_
    refine qI rfl c1 ?_
    refine qB (wN rfl c1 (v:=.bool _) rfl) ?_
    refine mvB rfl ?_
    refine qI rfl rfl ?_
    refine qI rfl rfl ?_
    refine qI rfl rfl ?_
    refine qI rfl rfl ?_
    refine qI rfl rfl ?_
    refine qI rfl rfl ?_
    refine qI rfl rfl ?_
    refine zG rfl ?_
    refine zG rfl ?_
    refine zG rfl ?_
    refine qI rfl rfl ?_
    refine qB (wN rfl rfl (v:=.bool _) rfl) ?_
    refine wW rfl (rfl) ?_
    refine qA rfl ?_
    refine mvI rfl ?_
    refine asI rfl ?_
    refine qA rfl ?_
    refine mvI rfl ?_
    refine qB (qO rfl (by omega)) ?_
    refine asI rfl ?_
    refine ⟨kk + 1, ⟨intE (by omega), intE (by rw [hfp, if_pos hfw]), trivial⟩, rfl, rfl, (kX E_kk E_v), fun h3 E3 => by omega, by first | omega | (dsimp only; omega), ?_⟩
    repeat (first | exact qV _ _ _ | refine qX (by decide) ?_ | refine qU rfl ?_ | refine qY rfl ?_)
   skip
   refine qF rfl c1 ?_
   refine mvI rfl ?_
   refine qF rfl c1 ?_
   refine mvI rfl ?_
   refine qF rfl c1 ?_
   refine pvB rfl ?_
   refine qB (wM rfl c1 (v:=.bool _) rfl) ?_
   refine mvB rfl ?_
   rcases Bool.eq_false_or_eq_true (decide (((l.length - (kk + 1) : Nat) : Int) = life)) with c2 | c2
   ·skip
    have hfw : failW l hi lo many life (l.length - (kk + 1)) = true := by unfold failW; rw [hgd, c1, c2]; rfl
    refine qI rfl c2 ?_
    refine qI rfl c2 ?_
    refine qI rfl c2 ?_
    refine qI rfl c2 ?_
    refine qI rfl c2 ?_
    refine qI rfl c2 ?_
    refine qI rfl c2 ?_
    refine zG rfl ?_
    refine zG rfl ?_
    refine zG rfl ?_
    refine qI rfl c2 ?_
    refine qB (wN rfl c2 (v:=.bool _) rfl) ?_
    refine wW rfl (rfl) ?_
    refine qA rfl ?_
    refine mvI rfl ?_
    refine asI rfl ?_
    refine qA rfl ?_
    refine mvI rfl ?_
    refine qB (qO rfl (by omega)) ?_
    refine asI rfl ?_
    refine ⟨kk + 1, ⟨intE (by omega), intE (by rw [hfp, if_pos hfw]), trivial⟩, rfl, rfl, (kX E_kk E_v), fun h3 E3 => by omega, by first | omega | (dsimp only; omega), ?_⟩
    repeat (first | exact qV _ _ _ | refine qX (by decide) ?_ | refine qU rfl ?_ | refine qY rfl ?_)
   skip
   refine qF rfl c2 ?_
   refine mvS rfl ?_
   refine qF rfl c2 ?_
   refine mvI rfl ?_
   refine qF rfl c2 ?_
   refine qB (wK rfl hAw rfl rfl rfl (by omega) (by omega)) ?_
   refine qF rfl c2 ?_
   refine wX (v:=.int .i64 _) rfl rfl ((hcw) 0 _ rfl) ?_
   refine qF rfl c2 ?_
   refine mvI rfl ?_
   refine qF rfl c2 ?_
   refine pvB rfl ?_
   refine qF rfl c2 ?_
   refine mvB rfl ?_
   rcases Bool.eq_false_or_eq_true (decide (l[l.length - (kk + 1)] ≤ lo)) with c3 | c3
   ·skip
    refine qF rfl c3 ?_
    refine mvI rfl ?_
    refine qF rfl c3 ?_
    refine mvI rfl ?_
    refine qF rfl c3 ?_
    refine pvB rfl ?_
    refine qF rfl c2 ?_
    refine qB (wN rfl c3 (v:=.bool _) rfl) ?_
    refine qB (wM rfl c2 (v:=.bool _) rfl) ?_
    refine qP rfl (fun c4 => ?_) (fun c4 => ?_)
    ·skip
     have hfw : failW l hi lo many life (l.length - (kk + 1)) = true := by unfold failW; rw [hgd, c1, c2, c3, show decide ((coldN l lo (l.length - (kk + 1) + 1) : Int) = many) = true from by simpa using c4]; rfl
     refine qA rfl ?_
     refine mvI rfl ?_
     refine asI rfl ?_
     refine qA rfl ?_
     refine mvI rfl ?_
     refine qB (qO rfl (by omega)) ?_
     refine asI rfl ?_
     refine ⟨kk + 1, ⟨intE (by omega), intE (by rw [hfp, if_pos hfw]), trivial⟩, rfl, rfl, (kX E_kk E_v), fun h3 E3 => by omega, by first | omega | (dsimp only; omega), ?_⟩
     repeat (first | exact qV _ _ _ | refine qX (by decide) ?_ | refine qU rfl ?_ | refine qY rfl ?_)
    skip
    have hfw : ¬ failW l hi lo many life (l.length - (kk + 1)) = true := by unfold failW; rw [hgd, c1, c2, c3, show decide ((coldN l lo (l.length - (kk + 1) + 1) : Int) = many) = false from by simpa using c4]; simp
    refine qM ?_
    refine qA rfl ?_
    refine mvI rfl ?_
    refine qB (qO rfl (by omega)) ?_
    refine asI rfl ?_
    refine ⟨kk + 1, ⟨intE (by omega), intE (by rw [hfp, if_neg hfw]), trivial⟩, rfl, rfl, (kX E_kk E_v), fun h3 E3 => by omega, by first | omega | (dsimp only; omega), ?_⟩
    repeat (first | exact qV _ _ _ | refine qX (by decide) ?_ | refine qU rfl ?_ | refine qY rfl ?_)
   skip
   have hfw : ¬ failW l hi lo many life (l.length - (kk + 1)) = true := by unfold failW; rw [hgd, c1, c2, c3]; simp
   refine qI rfl c3 ?_
   refine qI rfl c3 ?_
   refine qI rfl c3 ?_
   refine qF rfl c2 ?_
   refine qB (wM rfl c3 (v:=.bool _) rfl) ?_
   refine qB (wM rfl c2 (v:=.bool _) rfl) ?_
   refine wS rfl (rfl) ?_
   refine qM ?_
   refine qA rfl ?_
   refine mvI rfl ?_
   refine qB (qO rfl (by omega)) ?_
   refine asI rfl ?_
   refine ⟨kk + 1, ⟨intE (by omega), intE (by rw [hfp, if_neg hfw]), trivial⟩, rfl, rfl, (kX E_kk E_v), fun h3 E3 => by omega, by first | omega | (dsimp only; omega), ?_⟩
   repeat (first | exact qV _ _ _ | refine qX (by decide) ?_ | refine qU rfl ?_ | refine qY rfl ?_)
  skip
  have hkk : kk = l.length := by have := of_decide_eq_false hw3; omega
  subst hkk
  refine wV ?_
  refine qA rfl ?_
  refine qB (qD rfl rfl rfl rfl 2 rfl) ?_
  refine qL 4 (v:=.slice _ _ _) rfl rfl rfl rfl ?_
  refine mvI rfl ?_
  refine wG (zc:=[_]) (vs:=[(0, .int .i64 _)]) (cs:=[_]) rfl rfl rfl rfl rfl rfl rfl fun b170 hb170 => ?_
  refine qH [_, _, _, _, _, _, _, _, _, _, _, _, _, _, _] rfl ?_
  refine zE 10 r6 rfl rfl rfl (fun V => rdP V (i:=14) rfl) rfl rfl rfl rfl rfl rfl rfl rfl rfl (by omega) rfl (by rw [wO (m:=1) (fun _ _ => rfl), fl]; simp; omega) fun a6' h11a E11a ra6 => ?_
  refine qH [_, _, _, _, _, _, _, _, _, _, _, _, _, _, _] rfl ?_
  have hJT : JointT wt dt ⟨kd, ⟨max (-50) (hi - u11), min 100 (hi + w11)⟩, ⟨max (-50) (lo - u12), min 100 (lo + w12)⟩, ⟨max 1 (many - u13), min 6 (many + w13)⟩, ⟨max 0 (life - u14), min 9 (life + w14)⟩⟩ (failP l hi lo many life l.length : Nat) hi lo many life := by
   refine ⟨?_, ⟨many1, many2⟩, hlife, ⟨u11, w11, u111, u112, w111, w112, rfl⟩, ⟨u12, w12, u121, u122, w121, w122, rfl⟩, ⟨u13, w13, u131, u132, w131, w132, rfl⟩, ⟨u14, w14, u141, u142, w141, w142, rfl⟩, ?_⟩
   ·rcases hcase with c | c
    ·exact .inl ⟨c.1, c.2.2⟩
    exact .inr ⟨c.1, c.2.2⟩
   rcases hcase with c | c
   ·rw [c.1, if_pos rfl, ← c.2.1]; rfl
   rw [c.1, if_neg (by show ¬ (2 : Int) = 1; decide), ← c.2.1]; rfl
  refine qB (qD rfl rfl rfl rfl 2 rfl) ?_
  refine qS 4 (v:=.slice _ _ _) (vs:=[_]) (c':=[_, _, _]) rfl rfl rfl rfl rfl rfl rfl rfl rfl ?_
  refine qH [_, _, _, _, _, _, _, _, _, _, _, _, _, _, _] rfl ?_
  refine qA rfl ?_
  refine mvI rfl ?_
  refine qB (qO rfl (by omega)) ?_
  refine asI rfl ?_
  refine ⟨(i - 1, y14, js ++ [⟨kd, ⟨max (-50) (hi - u11), min 100 (hi + w11)⟩, ⟨max (-50) (lo - u12), min 100 (lo + w12)⟩, ⟨max 1 (many - u13), min 6 (many + w13)⟩, ⟨max 0 (life - u14), min 9 (life + w14)⟩⟩], fs ++ [((failP l hi lo many life l.length : Nat) : Int)], a5', a6'), ⟨rfl, trivial⟩, rfl, rfl, (kX (kX (kX (kX (kX (kX (kX (kX (kX (kX (kX (kX (kX (kX (kX E_i F2) F3) F4) E_z) F7) F8) F9) F10) F11) F12) F13) F14) E8a) E_kk) E11a), fun h3 E3 => ⟨⟨by omega, by simp; omega⟩, m3.snoc hJT, by rw [List.flatMap_append]; exact ra5, by rw [List.flatMap_append]; exact ra6⟩, by first | omega | (dsimp only; omega), ?_⟩
  repeat (first | exact qV _ _ _ | refine qX (by decide) ?_ | refine qU rfl ?_ | refine qY rfl ?_)
 skip
 have hi0' : i = 0 := by have := of_decide_eq_false ht2; omega
 obtain ⟨p5, A5, n5, c5⟩ := a5
 obtain ⟨p6, A6, n6, c6⟩ := a6
 dsimp only at *
 obtain rfl : n5 = js.length := by have := AccR.len r5; rw [wO (m:=9) (fun _ _ => rfl)] at this; dsimp only at this; omega
 obtain rfl : n6 = fs.length := by have := AccR.len r6; rw [wO (m:=1) (fun _ _ => rfl)] at this; dsimp only at this; omega
 refine yD 10 rfl ?_
 intro g6 G6 P6
 refine qR [_, _, _, _, _, _, _, _, _, _, _] rfl ?_
 have R6 : Row g6 1 intC A6 fs := ⟨fun _ _ => rfl, AccR.rd r6 P6⟩
 refine zN ?_
 refine qR [_, _, _, _, _, _, _, _, _, _, _, _] rfl ?_
 refine wV ?_
 refine qC (qC (qA rfl ?_))
 refine qB (qK (v:=.pointer (some ⟨b, 0, none⟩)) rfl) ?_
 refine mvI rfl ?_
 refine zM [] [_] [_, _, _, _, _, _, _, _, _, _, _] (vs:=[.pointer _, .int .i64 _]) rfl rfl rfl ((Upto_ok b y reports (by omega) g6)) ?_
 rintro _ k20 _ F20 ⟨y20, i20, rfl, rfl, i201, i202⟩
 refine qH [_, _, _, _, _, _, _, _, _, _, _, _] rfl ?_
 refine asI rfl ?_
 refine qT ?_
 refine yC [26, 176, 177, 178, 179, 180, 181, 182, 183, 184, 185, 186, 187, 188, 189, 190, 191, 192, 193] 12 (α:=Int × Nat × List Seen × Acc) (fun ⟨e, y, rs, a7⟩ => [(26, .int .i64 e)]) (fun ⟨e, y, rs, a7⟩ L => ((L.set 0 (some (b, .cells #[.int .u64 (y : Int)] 67 (0, 0)))).set 3 (some (b10, .cells #[.slice A3 hs.length c3, .slice A4 ds.length c4, .slice A5 js.length c5, .slice a7.A a7.n a7.c] 26 (0, 0)))).set 11 (a7.p)) (fun ⟨e, y, rs, a7⟩ h_e => (0 ≤ e ∧ e + rs.length ≤ reports) ∧ (∀ r ∈ rs, SeenT wt.length fs r) ∧ AccR 63 3 (rs.flatMap seenC) a7) (fun ⟨e, y, rs, a7⟩ => e.toNat) ((i20, y20, [], acc0)) ⟨rfl, trivial⟩ (rfl) (⟨⟨i201, by simp; omega⟩, fun _ h => (by cases h), accR0⟩) ?_
 rintro ⟨e, y, rs, a7⟩ T12 h_e E_e J_e
 refine qR [_, _, _, _, _, _, _, _, _, _, _, _] rfl ?_
 obtain ⟨⟨s1, s2⟩, s3, r7⟩ := J_e
 refine qC (qC (qA rfl ?_))
 refine mvI rfl ?_
 refine pvB rfl ?_
 refine mvB rfl ?_
 rcases Bool.eq_false_or_eq_true (decide (e > 0)) with he | he
 ·skip
  have he' : 0 < e := of_decide_eq_true he
  refine qF rfl he ?_
  refine qB (qD rfl rfl rfl rfl 2 rfl) ?_
  refine qF rfl he ?_
  refine qL 3 (v:=.slice _ _ _) rfl rfl rfl rfl ?_
  refine qF rfl he ?_
  refine qB (wP rfl rfl) ?_
  refine qF rfl he ?_
  refine pvB rfl ?_
  refine qB (wN rfl he (v:=.bool _) rfl) ?_
  refine qP rfl (fun hjl => ?_) (fun hjl => ?_)
  ·skip
   have hjl' : 0 < fs.length := by have := of_decide_eq_true hjl; omega
   refine qM ?_
   refine qC ?_
   refine qT ?_
   refine zL [true, false, false, false, false, false, false, false, false, false, false, true] rfl rfl rfl ?_
   refine qE (i:=0) rfl (by decide +kernel) (qD rfl rfl rfl rfl 3 rfl) ?_
   refine wD (i:=1) rfl (by decide +kernel) ?_
   refine qL 3 (v:=.slice _ _ _) rfl rfl rfl rfl ?_
   refine qE (i:=2) rfl (by decide +kernel) (qK (v:=.pointer (some ⟨b, 0, none⟩)) rfl) ?_
   refine wD (i:=3) rfl (by decide +kernel) ?_
   refine qZ 4 (vs:=[.slice _ _ _, .slice _ _ _, .slice _ _ _]) rfl rfl rfl rfl rfl ?_
   refine wZ (i:=4) rfl (by decide +kernel) ?_
   refine zM [] [_] [_, _, _, _, _, _, _, _, _, _, _] (vs:=[.pointer _, .agg #[.slice _ _ _, .slice _ _ _, .slice _ _ _]]) rfl rfl rfl ((SeenOf_ok b y wt.length dt.length (by omega) (by omega) fs hjl' (by omega) A1 A2 A6 c1 c2 c6 h_e (R6.ext (kX F20 E_e)))) ?_
   rintro _ k21 _ F21 ⟨y21, sr, rfl, rfl, sr1⟩
   refine ⟨zJ F21 _, ?_⟩
   refine wJ [_, _, _, _, _, _, _, _, _, _, _, _] rfl ?_
   refine wZ (i:=5) rfl (by decide +kernel) ?_
   refine wG (zc:=[_, _, _]) (vs:=[(0, .agg #[.int .i64 _, .int .i64 _, .bool _])]) (cs:=[_, _, _]) rfl rfl rfl rfl rfl rfl rfl fun b191 hb191 => ?_
   refine ⟨vL hb191 _, ?_⟩
   refine wJ [_, _, _, _, _, _, _, _, _, _, _, _, _] rfl ?_
   refine wU (i:=6) rfl (by decide +kernel) (by decide +kernel) ?_
   refine zE 11 r7 rfl rfl rfl (fun V => rdP V (i:=12) rfl) rfl rfl rfl rfl rfl rfl rfl rfl rfl (by omega) rfl (by rw [wO (m:=3) (fun _ _ => rfl)]; simp; omega) fun a7' h13a E13a ra7 => ?_
   refine wJ [_, _, _, _, _, _, _, _, _, _, _, _, _] rfl ?_
   refine qE (i:=7) rfl (by decide +kernel) (qD rfl rfl rfl rfl 3 rfl) ?_
   refine wU (i:=8) rfl (by decide +kernel) (by decide +kernel) ?_
   refine qS 3 (v:=.slice _ _ _) (vs:=[_]) (c':=[_, _, _, _]) rfl rfl rfl rfl rfl rfl rfl rfl rfl ?_
   refine wJ [_, _, _, _, _, _, _, _, _, _, _, _, _] rfl ?_
   refine zB rfl ?_
   refine qA rfl ?_
   refine mvI rfl ?_
   refine qB (qO rfl (by omega)) ?_
   refine asI rfl ?_
   refine ⟨(e - 1, y21, rs ++ [sr], a7'), ⟨rfl, trivial⟩, rfl, rfl, (kX (kX E_e F21) E13a), fun h3 E3 => ⟨⟨by omega, by simp; omega⟩, memS s3 sr1, by rw [List.flatMap_append]; exact ra7⟩, by first | omega | (dsimp only; omega), ?_⟩
   repeat (first | exact qV _ _ _ | refine qX (by decide) ?_ | refine qU rfl ?_ | refine qY rfl ?_)
  skip
  obtain ⟨p7, A7, n7, c7⟩ := a7
  dsimp only at *
  obtain rfl : n7 = rs.length := by have := AccR.len r7; rw [wO (m:=3) (fun _ _ => rfl)] at this; dsimp only at this; omega
  refine wV ?_
  refine qC ?_
  refine zL [false, true, true] rfl rfl rfl ?_
  refine wD (i:=0) rfl (by decide +kernel) ?_
  refine qZ 3 (vs:=[.slice _ _ _, .slice _ _ _, .slice _ _ _, .slice _ _ _]) rfl rfl rfl rfl rfl ?_
  refine wD (i:=1) rfl (by decide +kernel) ?_
  refine qZ 4 (vs:=[.slice _ _ _, .slice _ _ _, .slice _ _ _]) rfl rfl rfl rfl rfl ?_
  refine wZ (i:=2) rfl (by decide +kernel) ?_
  refine qS 1 (v:=.agg #[.slice _ _ _, .slice _ _ _, .slice _ _ _, .slice _ _ _]) (vs:=[_, _, _, _]) (c':=[_, _, _, _]) rfl rfl rfl rfl rfl rfl rfl rfl rfl ?_
  refine ⟨Ext.refl _, ?_⟩
  refine wJ [_, _, _, _, _, _, _, _, _, _, _, _] rfl ?_
  refine wU (i:=3) rfl (by decide +kernel) (by decide +kernel) ?_
  refine qS 2 (v:=.agg #[.slice _ _ _, .slice _ _ _, .slice _ _ _]) (vs:=[_, _, _]) (c':=[_, _, _]) rfl rfl rfl rfl rfl rfl rfl rfl rfl ?_
  refine wJ [_, _, _, _, _, _, _, _, _, _, _, _] rfl ?_
  refine zB rfl ?_
  refine qQ ?_
  refine qJ (vs:=[_, _]) Tryz.results7 ⟨zI 1 rfl rfl rfl rfl rfl (vs:=[.slice _ _ _, .slice _ _ _, .slice _ _ _, .slice _ _ _]) rfl, zI 2 rfl rfl rfl rfl rfl (vs:=[.slice _ _ _, .slice _ _ _, .slice _ _ _]) rfl, trivial⟩ fun V => ?_
  obtain ⟨h9, E9, e9, V9⟩ := wl_two [_, _, _, _, _, _, _, _] [_] [] V
  exact ⟨h9, _, e9, V9, kX (kX (kX (kX (kX (kX (kX (kX (kX (kX (kX E1 E_q) G1) G2) G3) G4) F1) E_i) G6) F20) E_e) E9, y, ⟨hs, ds, js, rs⟩, wt, dt, fs, _, _, ⟨p5, A5, js.length, c5⟩, ⟨p7, A7, rs.length, c7⟩, rfl, rfl, ⟨by omega, by omega, j4, j5, j6, j7, j8, by show js.length ≤ _; omega, m3, by show rs.length ≤ _; omega, s3⟩, r5, r7, ⟨A3, c3, A4, c4, rfl, (R3.ext (kX (kX (kX (kX F1 E_i) G6) F20) E_e)).ext E9, (R4.ext (kX (kX (kX (kX F1 E_i) G6) F20) E_e)).ext E9⟩, A1, c1, A2, c2, A6, c6, rfl, (R1.ext (kX (kX (kX (kX F1 E_i) G6) F20) E_e)).ext E9, (R2.ext (kX (kX (kX (kX F1 E_i) G6) F20) E_e)).ext E9, (R6.ext (kX F20 E_e)).ext E9⟩
 skip
 refine qI rfl he ?_
 refine qI rfl he ?_
 refine qI rfl he ?_
 refine qI rfl he ?_
 refine qB (wM rfl he (v:=.bool _) rfl) ?_
 refine wS rfl (rfl) ?_
 obtain ⟨p7, A7, n7, c7⟩ := a7
 dsimp only at *
 obtain rfl : n7 = rs.length := by have := AccR.len r7; rw [wO (m:=3) (fun _ _ => rfl)] at this; dsimp only at this; omega
 refine wV ?_
 refine qC ?_
 refine zL [false, true, true] rfl rfl rfl ?_
 refine wD (i:=0) rfl (by decide +kernel) ?_
 refine qZ 3 (vs:=[.slice _ _ _, .slice _ _ _, .slice _ _ _, .slice _ _ _]) rfl rfl rfl rfl rfl ?_
 refine wD (i:=1) rfl (by decide +kernel) ?_
 refine qZ 4 (vs:=[.slice _ _ _, .slice _ _ _, .slice _ _ _]) rfl rfl rfl rfl rfl ?_
 refine wZ (i:=2) rfl (by decide +kernel) ?_
 refine qS 1 (v:=.agg #[.slice _ _ _, .slice _ _ _, .slice _ _ _, .slice _ _ _]) (vs:=[_, _, _, _]) (c':=[_, _, _, _]) rfl rfl rfl rfl rfl rfl rfl rfl rfl ?_
 refine ⟨Ext.refl _, ?_⟩
 refine wJ [_, _, _, _, _, _, _, _, _, _, _, _] rfl ?_
 refine wU (i:=3) rfl (by decide +kernel) (by decide +kernel) ?_
 refine qS 2 (v:=.agg #[.slice _ _ _, .slice _ _ _, .slice _ _ _]) (vs:=[_, _, _]) (c':=[_, _, _]) rfl rfl rfl rfl rfl rfl rfl rfl rfl ?_
 refine wJ [_, _, _, _, _, _, _, _, _, _, _, _] rfl ?_
 refine zB rfl ?_
 refine qQ ?_
 refine qJ (vs:=[_, _]) Tryz.results7 ⟨zI 1 rfl rfl rfl rfl rfl (vs:=[.slice _ _ _, .slice _ _ _, .slice _ _ _, .slice _ _ _]) rfl, zI 2 rfl rfl rfl rfl rfl (vs:=[.slice _ _ _, .slice _ _ _, .slice _ _ _]) rfl, trivial⟩ fun V => ?_
 obtain ⟨h9, E9, e9, V9⟩ := wl_two [_, _, _, _, _, _, _, _] [_] [] V
 exact ⟨h9, _, e9, V9, kX (kX (kX (kX (kX (kX (kX (kX (kX (kX (kX E1 E_q) G1) G2) G3) G4) F1) E_i) G6) F20) E_e) E9, y, ⟨hs, ds, js, rs⟩, wt, dt, fs, _, _, ⟨p5, A5, js.length, c5⟩, ⟨p7, A7, rs.length, c7⟩, rfl, rfl, ⟨by omega, by omega, j4, j5, j6, j7, j8, by show js.length ≤ _; omega, m3, by show rs.length ≤ _; omega, s3⟩, r5, r7, ⟨A3, c3, A4, c4, rfl, (R3.ext (kX (kX (kX (kX F1 E_i) G6) F20) E_e)).ext E9, (R4.ext (kX (kX (kX (kX F1 E_i) G6) F20) E_e)).ext E9⟩, A1, c1, A2, c2, A6, c6, rfl, (R1.ext (kX (kX (kX (kX F1 E_i) G6) F20) E_e)).ext E9, (R2.ext (kX (kX (kX (kX F1 E_i) G6) F20) E_e)).ext E9, (R6.ext (kX F20 E_e)).ext E9⟩
theorem SeasonOf_ok (b x weeks joints reports : Nat) (hw : 1 ≤ weeks) (hw2 : weeks ≤ 6) (hj : joints ≤ 3) (hr : reports ≤ 100) (h : AH) :
  FnM Tryz.prog (.func (.func 7) #[] ([] : List Value).toArray) [.pointer (some ⟨b, 0, none⟩), .int .i64 weeks, .int .i64 joints, .int .i64 reports] h [some (b, .cells #[.int .u64 (x : Int)] 67 (0, 0))]
  (fun v h' M' => ∃ (x' : Nat) (s : Season) (ht dt fs : List Int) (u w : Value), M' = [some (b, .cells #[.int .u64 (x' : Int)] 67 (0, 0))] ∧ v = .tuple #[u, w] ∧ SeasonS h' s u ∧ SeasonT weeks joints reports s ht dt fs
   ∧ ∃ HA hc DA dc FA fc, w = .agg #[.slice HA ht.length hc, .slice DA dt.length dc, .slice FA fs.length fc] ∧ Row h' 1 intC HA ht ∧ Row h' 1 intC DA dt ∧ Row h' 1 intC FA fs) := by
 intro V
 refine CallV.mono (SeasonOf_okM b x weeks joints reports hw hw2 hj hr h V) ?_ (fun _ _ y => y)
 rintro v H ⟨h', M', e, V', E, x', s, ht, dt, fs, u, w, a5, a7, rfl, rfl, T, r5, r7, ⟨A0, c0, A1, c1, rfl, RH, RD⟩, HA, hc, DA, dc, FA, fc, rfl, R1, R2, R3⟩
 obtain ⟨h9, E9, e9, V9, P5, P7⟩ := wl_open V'
 exact ⟨h9, _, e.trans e9, V9, E.trans E9, x', s, ht, dt, fs, _, _, rfl, rfl, ⟨A0, A1, a5.A, a7.A, c0, c1, a5.c, a7.c, rfl, RH.ext E9, RD.ext E9, ⟨fun _ _ => rfl, AccR.rd r5 P5⟩, ⟨fun _ _ => rfl, AccR.rd r7 P7⟩⟩, T, HA, hc, DA, dc, FA, fc, rfl, R1.ext E9, R2.ext E9, R3.ext E9⟩
end Go.Proofs.YtboigjfgpppeaaaGreatDoor
namespace Go.Wx
open Go Go.HL
variable [Lvl]
theorem vJ {α : Type} {f : α → Int} : ∀ {l : List α}, (∀ x ∈ l, f x = 0) → firstErr f l = 0
 | [], _ => rfl
 | y :: l, h => by
  rw [firstErr, if_neg (by simp [h y (List.mem_cons_self ..)])]
  exact vJ fun x hx => h x (List.mem_cons_of_mem _ hx)
theorem checkRange_of {x : Rg} {lo hi : Int} (h : lo ≤ x.mn ∧ x.mn ≤ x.mx ∧ x.mx ≤ hi) : checkRangeM x lo hi = 0 := by
 unfold checkRangeM inM
 rw [if_neg (by simp; omega), if_neg (by simp; omega), if_neg (by omega)]
theorem kL {x : Rg} (h : -50 ≤ x.mn ∧ x.mn ≤ x.mx ∧ x.mx ≤ 100 ∧ x.mx - x.mn ≤ 2) : checkWeatherM x = 0 := by
 unfold checkWeatherM
 rw [checkRange_of ⟨h.1, h.2.1, h.2.2.1⟩, if_neg (by simp), if_neg (by omega)]
theorem NearR.bd {t lo hi d : Int} {r : Rg} (n : NearR t lo hi d r) (h1 : lo ≤ t) (h2 : t ≤ hi) : lo ≤ r.mn ∧ r.mn ≤ t ∧ t ≤ r.mx ∧ r.mx ≤ hi ∧ r.mx - r.mn ≤ 2 * d := by
 obtain ⟨u, w, a, b, c, e, rfl⟩ := n
 dsimp only
 omega
theorem NearL.mem {ts : List Int} {rs : List Rg} (n : NearL ts rs) {r : Rg} (h : r ∈ rs) : ∃ t ∈ ts, NearR t (-50) 100 1 r := by
 obtain ⟨i, hi⟩ := List.mem_iff_getElem?.1 h
 have hl := (List.getElem?_eq_some_iff.1 hi).1
 have hl' : i < ts.length := by rw [← n.len]; exact hl
 have ht : ts[i]? = some ts[i] := List.getElem?_eq_getElem hl'
 exact ⟨ts[i], List.getElem_mem _, n.at' i _ r ht hi⟩
section
variable {weeks joints reports : Nat} {s : Season} {ht dt fs : List Int} (T : SeasonT weeks joints reports s ht dt fs) (hw : weeks ≤ 6) (hj : joints ≤ 3) (hr : reports ≤ 5)
include T hw hj hr
theorem check_T : checkM s = 0 := by
 have h1 := T.w1
 have h2 := T.ww
 have h3 := T.hn.len
 have h4 := T.dn.len
 have h5 := T.dl
 have h6 := T.jl
 have h7 := T.rl
 have hwt : firstErr checkWeatherM (s.heats ++ s.damps) = 0 := vJ fun r h => by
  rcases List.mem_append.1 h with h | h
  ·obtain ⟨t, ht', n⟩ := T.hn.mem h
   have := T.hb t ht'
   have := n.bd (by omega) (by omega)
   exact kL (by omega)
  obtain ⟨t, ht', n⟩ := T.dn.mem h
  have := T.db t ht'
  have := n.bd (by omega) (by omega)
  exact kL (by omega)
 have hjt : firstErr checkJointM s.joints = 0 := vJ fun j h => by
  obtain ⟨i, hi⟩ := List.mem_iff_getElem?.1 h
  have hl := (List.getElem?_eq_some_iff.1 hi).1
  have hl' : i < fs.length := by rw [T.js.len]; exact hl
  have hf : fs[i]? = some fs[i] := List.getElem?_eq_getElem hl'
  obtain ⟨a, b, c, d, J⟩ := T.js.at' i j _ hi hf
  have k := J.k
  have m := J.m
  have l := J.l
  have n1 := J.h1.bd (by omega) (by omega)
  have n2 := J.h2.bd (by omega) (by omega)
  have n3 := J.h3.bd (by omega) (by omega)
  have n4 := J.h4.bd (by omega) (by omega)
  unfold checkJointM inM
  rw [if_neg (by simp; omega), kL (x:=j.high) (by omega), if_neg (by simp), kL (x:=j.low) (by omega), if_neg (by simp), checkRange_of (x:=j.weeks) (by omega), if_neg (by simp), checkRange_of (x:=j.life) (by omega)]
 have hrt : firstErr (checkSeenM s) s.reports = 0 := vJ fun r h => by
  obtain ⟨a, b, c, d, _⟩ := T.rs r h
  have := T.js.len
  unfold checkSeenM inM
  rw [if_neg (by simp; omega), if_neg (by simp; omega)]
 unfold checkM
 rw [if_neg (by omega), if_neg (by omega), if_neg (by omega), if_neg (by omega), hwt, if_neg (by simp), if_neg (by omega), hjt, if_neg (by simp), if_neg (by omega), hrt]
end
def skyOf (l : List Int) : Sky := ⟨l.getD 0 0, l.getD 1 0, l.getD 2 0, l.getD 3 0, l.getD 4 0, l.getD 5 0⟩
theorem Sky.ext_at {x y : Sky} (h : ∀ i, i < 6 → x.at i = y.at i) : x = y := by
 obtain ⟨a0, a1, a2, a3, a4, a5⟩ := x
 obtain ⟨b0, b1, b2, b3, b4, b5⟩ := y
 have h0 := h 0 (by omega); have h1 := h 1 (by omega); have h2 := h 2 (by omega); have h3 := h 3 (by omega); have h4 := h 4 (by omega); have h5 := h 5 (by omega)
 simp only [Sky.at] at h0 h1 h2 h3 h4 h5
 rw [h0, h1, h2, h3, h4, h5]
theorem Sky.at_set (x : Sky) (v : Int) {k i : Nat} (hk : k < 6) (hi : i < 6) : (x.set k v).at i = if i = k then v else x.at i := by
 match k, hk, i, hi with
 | 0, _, i, hi => match i, hi with | 0, _ => rfl | 1, _ => rfl | 2, _ => rfl | 3, _ => rfl | 4, _ => rfl | 5, _ => rfl | i + 6, h => omega
 | 1, _, i, hi => match i, hi with | 0, _ => rfl | 1, _ => rfl | 2, _ => rfl | 3, _ => rfl | 4, _ => rfl | 5, _ => rfl | i + 6, h => omega
 | 2, _, i, hi => match i, hi with | 0, _ => rfl | 1, _ => rfl | 2, _ => rfl | 3, _ => rfl | 4, _ => rfl | 5, _ => rfl | i + 6, h => omega
 | 3, _, i, hi => match i, hi with | 0, _ => rfl | 1, _ => rfl | 2, _ => rfl | 3, _ => rfl | 4, _ => rfl | 5, _ => rfl | i + 6, h => omega
 | 4, _, i, hi => match i, hi with | 0, _ => rfl | 1, _ => rfl | 2, _ => rfl | 3, _ => rfl | 4, _ => rfl | 5, _ => rfl | i + 6, h => omega
 | 5, _, i, hi => match i, hi with | 0, _ => rfl | 1, _ => rfl | 2, _ => rfl | 3, _ => rfl | 4, _ => rfl | 5, _ => rfl | i + 6, h => omega
 | k + 6, h, _, _ => omega
theorem mem_skies {y : Sky} : ∀ (rs : List Rg) (k : Nat) (x : Sky), k + rs.length ≤ 6 → (∀ (i : Nat) r, rs[i]? = some r → r.mn ≤ y.at (k + i) ∧ y.at (k + i) ≤ r.mx) → (∀ i, i < 6 → i < k ∨ k + rs.length ≤ i → y.at i = x.at i) → y ∈ skiesM rs k x
 | [], k, x, _, _, h => by
  rw [skiesM, List.mem_singleton]
  exact Sky.ext_at fun i hi => h i hi (by simp; omega)
 | r :: rs, k, x, hl, hr, h => by
  rw [List.length_cons] at hl h
  rw [skiesM, List.mem_flatMap]
  have h0 := hr 0 r rfl
  refine ⟨y.at k, mem_rangeI.2 (by rw [Nat.add_zero] at h0; omega), mem_skies rs (k + 1) _ (by omega) (fun i q hq => ?_) (fun i hi hc => ?_)⟩
  ·have := hr (i + 1) q (by simpa using hq)
   rw [show k + 1 + i = k + (i + 1) by omega]
   exact this
  rw [Sky.at_set x _ (by omega) hi]
  split
  ·rename_i e; rw [e]
  exact h i hi (by omega)
end Go.Wx
namespace Go.Wx
open Go Go.HL
variable [Lvl]
end Go.Wx
namespace Go.Wx
open Go Go.HL
variable [Lvl]
theorem listN_pair (m : Nat) : ∀ k, (listN m k).Pairwise (· < ·)
 | 0 => by simp [listN]
 | k + 1 => by
  rw [listN_succ]
  split
  ·rw [List.pairwise_append]
   refine ⟨listN_pair m k, by simp, fun a ha b hb => ?_⟩
   obtain ⟨i, rfl, hi, _⟩ := kU ha
   simp at hb
   subst hb
   omega
  exact listN_pair m k
theorem mem_listN {m k : Nat} {z : Int} : z ∈ listN m k ↔ ∃ i : Nat, z = i ∧ i < k ∧ m.testBit i = true := by
 refine ⟨kU, ?_⟩
 rintro ⟨i, rfl, hi, hb⟩
 unfold listN
 simp only [List.mem_map, List.mem_filter, List.mem_range]
 exact ⟨i, ⟨hi, hb⟩, rfl⟩
theorem uptoM_bit (m k w : Nat) : (uptoM m k).testBit w = (m.testBit w && decide (w ≤ k)) := by
 unfold uptoM
 rw [Nat.testBit_and, Nat.testBit_two_pow_sub_one]
 congr 1
 rw [decide_eq_decide]
 omega
theorem toldStep_bit (j : Int) (m : Nat) (r : Seen) (w : Nat) (hw : w < 64) (hm : m < 2 ^ 64) (hr : 0 ≤ r.week) : (toldStep j m r).testBit w = (m.testBit w && (!decide (r.joint = j) || (r.failed == decide ((w : Int) ≤ r.week)))) := by
 have hwk : decide (w ≤ r.week.toNat) = decide ((w : Int) ≤ r.week) := by rw [decide_eq_decide]; omega
 unfold toldStep
 by_cases h : r.joint = j
 ·rw [if_neg (by simp [h])]
  cases hf : r.failed with
  | true => simp [uptoM_bit, h, hwk]
  | false =>
   have hu : uptoM m r.week.toNat < 2 ^ 64 := uptoM_lt hm
   simp only [h, Bool.false_eq_true, if_false, decide_true, Bool.not_true, Bool.false_or]
   rw [Nat.testBit_and, show 2 ^ 64 - 1 - uptoM m r.week.toNat = 2 ^ 64 - (uptoM m r.week.toNat + 1) from by omega, Nat.testBit_two_pow_sub_succ hu, uptoM_bit, hwk]
   cases m.testBit w <;> simp [hw]
 rw [if_pos h]; simp [h]
theorem toldW_bit (s : Season) (h6 : s.heats.length ≤ 6) (hr : ∀ r ∈ s.reports, 0 ≤ r.week) (i w : Nat) (hw : w < 64) : (toldW s i).testBit w = (decide (w ≤ s.heats.length) && s.reports.all fun r => !decide (r.joint = (i : Int)) || (r.failed == decide ((w : Int) ≤ r.week))) := by
 have key : ∀ (l : List Seen) (m : Nat), m < 2 ^ 64 → (∀ r ∈ l, 0 ≤ r.week) → (l.foldl (toldStep i) m).testBit w = (m.testBit w && l.all fun r => !decide (r.joint = (i : Int)) || (r.failed == decide ((w : Int) ≤ r.week))) := by
  intro l
  induction l with
  | nil => intro m _ _; simp
  | cons r l ih =>
   intro m hm hr
   rw [List.foldl_cons, ih _ (toldStep_lt hm) (fun q hq => hr q (List.mem_cons_of_mem _ hq)), toldStep_bit _ _ _ _ hw hm (hr r (List.mem_cons_self ..)), List.all_cons, Bool.and_assoc]
 have h2 : 2 ^ (s.heats.length + 1) ≤ 2 ^ 7 := Nat.pow_le_pow_right (by omega) (by omega)
 unfold toldW toldM
 rw [List.take_length, key _ _ (by omega) hr, Nat.testBit_two_pow_sub_one]
 congr 1
 rw [decide_eq_decide]
 omega
theorem mem_okAll {s : Season} {n : Int} {x : Sky} : x ∈ okK s n (allSkies s n).length ↔ x ∈ allSkies s n ∧ okM s n x = true := by
 unfold okK
 rw [List.take_length, List.mem_filter]
theorem okM_iff {s : Season} {n : Int} {x : Sky} : okM s n x = true ↔ ∀ (i : Nat) j, s.joints[i]? = some j → j.kind = n → surv s n x i ≠ [] := by
 unfold okM
 rw [List.all_eq_true]
 constructor
 ·intro h i j hj hk e
  have hl := (List.getElem?_eq_some_iff.1 hj).1
  have := h i (List.mem_range.2 hl)
  unfold kindAt at this
  rw [hj] at this
  simp [hk, fateM, e, maskM] at this
 intro h i hi
 rw [List.mem_range] at hi
 have hj : s.joints[i]? = some s.joints[i] := List.getElem?_eq_getElem hi
 unfold kindAt
 rw [hj]
 by_cases hk : s.joints[i].kind = n
 ·have := h i _ hj hk
  simp [fateM, maskM_zero, this]
 simp [hk]
section
variable {weeks joints reports : Nat} {s : Season} {ht dt fs : List Int} (T : SeasonT weeks joints reports s ht dt fs) (hw : weeks ≤ 6)
include T hw
end
end Go.Wx
namespace Go.HL
open Go Go.Wx Go.RowKit
def lawK (t : Nat) (h0 : AH) : Post
 | .normal, S, D, L, h => D = [] ∧ (Valid h L → Ext h0 (wl h L)) ∧ S t = .bool true
 | .ret, S, D, L, h => D = [] ∧ (Valid h L → Ext h0 (wl h L)) ∧ S t = .bool true
 | _, _, _, _, _ => False
theorem below_of {w w' : World} (se : SameEnv w w') (e : Ext (absH w.heap) (absH w'.heap)) : Below w.heap.size w w' := by
 have hb : ∀ k, k < w.heap.size → w'.heap[k]? = w.heap[k]? := by
  intro k hk
  have h1 : absH w.heap k = some w.heap[k] := Array.getElem?_eq_getElem hk
  have h2 : w'.heap[k]? = some w.heap[k] := e k _ h1
  rw [h2]
  exact (Array.getElem?_eq_getElem hk).symm
 refine ⟨se.os, se.tape, se.output, ?_, hb⟩
 rcases Nat.lt_or_ge w'.heap.size w.heap.size with h1 | h1
 ·have h2 := hb w'.heap.size h1
  rw [Array.getElem?_eq_getElem h1] at h2
  simp at h2
 exact h1
theorem calls_body {P : Program} {f : FuncId} {fn : Func} {c : Code} {args : Array Value} {n t : Nat} {w : World} (hf : P.funcs[f]? = some fn) (hb : fn.body = some c) (hn : fn.ntmps = n) (ha : Nat.ble args.size n = true) (hr : fn.results = #[.tmp t]) (ht : Nat.blt t n = true)
  (x : ∀ h, h = absH w.heap → @xp ⟨false, none, none⟩ P n none c (lawK t h) (argS args) [] [] h) : Calls P f args w (fun e w' => e = .returned (.bool true) ∧ Below w.heap.size w w') := by
 letI : Lvl := ⟨false, none, none⟩
 intro cs
 have he : Frame.enter P f args .normal = mk { (default : Frame) with fn := f, kind := .normal, roundOf := none } n (argS args) [] [.code c] := by
  simp [Frame.enter, mk, hf, hb, hn, enter_tmps n args (Nat.le_of_ble_eq_true ha)]
 have hres : ∀ (S : Sl) (w' : World), S t = .bool true → (results fn (arr n S)).run P w' = .ok (.bool true) w' := by
  intro S w' hs
  unfold results
  rw [hr, List.mapM_toArray]
  have e1 : (arr n S).getD t undef = .bool true := by rw [arr_getD, if_pos (Nat.lt_of_lt_of_le (Nat.lt_succ_self t) (Nat.le_of_ble_eq_true ht)), hs]
  show Result.ok ((arr n S).getD t undef) w' = _
  rw [e1]
 have x1 := x _ rfl (absH w.heap) (by have := Fits.nil (kM (Fin.abs w.heap)); rw [wl_nil] at this; exact this) { (default : Frame) with fn := f, kind := .normal, roundOf := none } rfl [] cs
 have x2 : Rch P (fun fr cs' H => cs' = cs ∧ fr.mode = .returning ∧ fr.defers = [] ∧ fr.kind = .normal ∧ fr.fn = f ∧ (∃ S, fr.tmps = arr n S ∧ S t = .bool true) ∧ Ext (absH w.heap) H) (mk { (default : Frame) with fn := f, kind := .normal, roundOf := none } n (argS args) [] [.code c]) cs (absH w.heap) := by
  refine x1.bind ?_
  rintro fr cs' H ⟨rfl, e, S', D', L', h', V', kk, a⟩
  cases e with
  | normal =>
   obtain ⟨rfl, ex, hs⟩ := kk
   have a' : fr = mk { (default : Frame) with fn := f, kind := .normal, roundOf := none } n S' [] [] := a
   subst a'
   have hH : H = wl h' L' := by rw [V'.eq]; exact kK _
   subst hH
   refine .ctl (fr':={ mk { (default : Frame) with fn := f, kind := .normal, roundOf := none } n S' [] [] with mode := .returning }) (cs':=cs') (fun w => by simp [stepG, stepG.exec, mk]) (.done ⟨rfl, rfl, rfl, rfl, rfl, ⟨S', rfl, hs⟩, ex V'.valid⟩)
  | ret =>
   obtain ⟨rfl, ex, hs⟩ := kk
   obtain ⟨todo, rfl⟩ := a.1 rfl
   have hH : H = wl h' L' := by rw [V'.eq]; exact kK _
   subst hH
   exact .done ⟨rfl, rfl, rfl, rfl, rfl, ⟨S', rfl, hs⟩, ex V'.valid⟩
  | _ => exact kk.elim
 obtain ⟨fr', cs', w', st, se, rfl, hm, hd, hk, hfn, ⟨S, htm, hs⟩, ex⟩ := x2.lone rfl rfl rfl w rfl
 refine ⟨.returned (.bool true), w', fr', ⟨rfl, below_of se ex⟩, ?_, hfn, hm, hd, hk, fn, by rw [hfn]; exact hf, by rw [htm]; exact hres S w' hs⟩
 rw [he]
 exact st
variable [Lvl]
end Go.HL
namespace Go.HL
open Go
variable [Lvl]
variable {P : Program} {n : Nat} {ops : Array Oper} {i : Nat} {d : Option Tmp} {op : Op} {ty : TypeId} {ps : String} {af : Array Edge} {S : Sl} {L : Pv} {h : AH} {mask : List Bool} {X : Sl → AH → Prop} {dn ac : List Nat}
end Go.HL
namespace Go.Proofs.YtboigjfgpppeaaaGreatDoor
open Go Go.HL Go.Proofs Go.Wx Go.RowKit
variable [Lvl]
set_option maxRecDepth 100000
theorem SeasonT.small {a b c : Nat} {s : Season} {ht dt fs : List Int} (T : SeasonT a b c s ht dt fs) (ha : a ≤ 6) (hb : b ≤ 3) (hc : c ≤ 100) : Small s := by
 have := T.hn.len; have := T.dn.len; have := T.dl; have := T.ww; have := T.jl; have := T.rl
 exact ⟨by omega, by omega, by omega, by omega⟩
section
variable {a b c : Nat} {s : Season} {ht dt fs : List Int} (T : SeasonT a b c s ht dt fs) (ha : a ≤ 6) (hb : b ≤ 3) (hc : c ≤ 5)
include T ha hb hc
end
end Go.Proofs.YtboigjfgpppeaaaGreatDoor
namespace Go.Wx
open Go Go.HL
variable [Lvl]
structure CheckS (s : Season) : Prop where
 w1 : 1 ≤ s.heats.length
 w6 : s.heats.length ≤ 6
 dl : s.damps.length = s.heats.length
 h : ∀ r ∈ s.heats, checkWeatherM r = 0
 d : ∀ r ∈ s.damps, checkWeatherM r = 0
 j3 : s.joints.length ≤ 3
 j : ∀ j ∈ s.joints, checkJointM j = 0
 r5 : s.reports.length ≤ 5
 r : ∀ r ∈ s.reports, checkSeenM s r = 0
theorem CheckS.ok {s : Season} (c : CheckS s) : checkM s = 0 := by
 have h1 := c.w1; have h2 := c.w6; have h3 := c.dl; have h4 := c.j3; have h5 := c.r5
 unfold checkM
 rw [if_neg (by omega), if_neg (by omega), if_neg (by omega), if_neg (by omega), vJ (fun x hx => (List.mem_append.1 hx).elim (c.h x) (c.d x)), if_neg (by simp), if_neg (by omega), vJ c.j, if_neg (by simp), if_neg (by omega), vJ c.r]
theorem CheckS.of {s : Season} (h : checkM s = 0) : CheckS s := by
 have V := yR h
 unfold checkM at h
 split at h
 ·cases h
 split at h
 ·cases h
 split at h
 ·cases h
 split at h
 ·cases h
 split at h
 ·rename_i h1; exact absurd h h1
 rename_i h1
 split at h
 ·cases h
 split at h
 ·rename_i h2; exact absurd h h2
 rename_i h2
 split at h
 ·cases h
 have w := zS (by simpa using h1)
 exact ⟨by omega, by omega, by omega, fun r hr => w r (List.mem_append_left _ hr), fun r hr => w r (List.mem_append_right _ hr), by omega, zS (by simpa using h2), by omega, zS h⟩
section
variable {α : Type} {f : α → α} {l : List α}
end
end Go.Wx
namespace Go.Proofs.YtboigjfgpppeaaaGreatDoor
open Go Go.HL Go.Proofs Go.Wx
variable [Lvl]
set_option maxRecDepth 100000
end Go.Proofs.YtboigjfgpppeaaaGreatDoor
namespace Go.Proofs.YtboigjfgpppeaaaGreatDoor
open Go Go.HL Go.Proofs Go.Wx Go.RowKit
variable [Lvl]
set_option maxRecDepth 100000
end Go.Proofs.YtboigjfgpppeaaaGreatDoor
namespace Go.Wx
open Go Go.HL
variable [Lvl]
structure SameK (s s' : Season) (n : Int) (f : Nat → Nat) : Prop where
 hs : s'.heats = s.heats
 ds : s'.damps = s.damps
 goes : ∀ (i : Nat) j, s.joints[i]? = some j → j.kind = n → s'.joints[f i]? = some j ∧ toldW s' (f i) = toldW s i
 comes : ∀ (i' : Nat) j, s'.joints[i']? = some j → j.kind = n → ∃ i, s.joints[i]? = some j ∧ f i = i'
section
variable {s s' : Season} {n : Int} {f : Nat → Nat}
theorem SameK.surv (e : SameK s s' n f) (x : Sky) {i : Nat} {j : Joint} (hj : s.joints[i]? = some j) (hk : j.kind = n) : surv s' n x (f i) = surv s n x i := by
 obtain ⟨h1, h2⟩ := e.goes i j hj hk
 unfold Wx.surv
 rw [hj, h1, h2, e.hs]
theorem SameK.all (e : SameK s s' n f) : allSkies s' n = allSkies s n := by unfold allSkies weatherM; rw [e.hs, e.ds]
theorem SameK.okE (e : SameK s s' n f) (x : Sky) : okM s' n x = okM s n x := by
 rw [Bool.eq_iff_iff, okM_iff, okM_iff]
 constructor
 ·intro h i j hj hk; rw [← e.surv x hj hk]; exact h _ _ (e.goes i j hj hk).1 hk
 intro h i' j hj hk
 obtain ⟨i, hi, rfl⟩ := e.comes i' j hj hk
 rw [e.surv x hi hk]
 exact h _ _ hi hk
end
theorem checkSeen_iff {s : Season} {r : Seen} : checkSeenM s r = 0 ↔ 0 ≤ r.joint ∧ r.joint < s.joints.length ∧ 0 ≤ r.week ∧ r.week < s.heats.length := by
 unfold checkSeenM inM
 constructor
 ·intro h
  split at h
  ·cases h
  rename_i q1
  split at h
  ·cases h
  rename_i q2
  simp only [Bool.not_eq_true, Bool.not_eq_false', Bool.and_eq_true, decide_eq_true_eq] at q1 q2
  omega
 intro h
 rw [if_neg (by simp; omega), if_neg (by simp; omega)]
structure Order (o : List Int) (n : Nat) : Prop where
 len : o.length = n
 bd : ∀ x ∈ o, 0 ≤ x ∧ x < n
 inj : ∀ (i k : Nat), i < n → k < n → o[i]? = o[k]? → i = k
theorem Order.at' {o : List Int} {n : Nat} (O : Order o n) {i : Nat} (hi : i < n) : ∃ k : Nat, o[i]? = some (k : Int) ∧ k < n := by
 have hl : i < o.length := by rw [O.len]; exact hi
 have := O.bd o[i] (List.getElem_mem hl)
 exact ⟨o[i].toNat, by rw [List.getElem?_eq_getElem hl]; congr 1; omega, by omega⟩
def ordN (o : List Int) (i : Nat) : Nat := (o.getD i 0).toNat
theorem Order.ordN {o : List Int} {n : Nat} (O : Order o n) {i : Nat} (hi : i < n) : o[i]? = some ((ordN o i : Nat) : Int) ∧ Wx.ordN o i < n := by
 obtain ⟨k, h1, h2⟩ := O.at' hi
 unfold Wx.ordN
 rw [List.getD_eq_getElem?_getD, h1]
 simpa using h2
def moved (o : List Int) (r : Seen) : Seen := { r with joint := o.getD r.joint.toNat 0 }
structure Moved (s x : Season) (o : List Int) : Prop where
 ord : Order o s.joints.length
 hs : x.heats = s.heats
 ds : x.damps = s.damps
 jl : x.joints.length = s.joints.length
 js : ∀ i, i < s.joints.length → x.joints[ordN o i]? = s.joints[i]?
 rs : x.reports = s.reports.map (moved o)
end Go.Wx
namespace Go.Wx
open Go Go.HL
variable [Lvl]
theorem wrL_mid (a c : List Value) : ∀ (vs b : List Value) (j : Nat), j + vs.length ≤ b.length → wrL (a ++ b ++ c) (a.length + j) vs = a ++ wrL b j vs ++ c
 | [], b, j, _ => rfl
 | v :: vs, b, j, h => by
  rw [List.length_cons] at h
  have hj : j < b.length := by omega
  have e : (a ++ b ++ c).set (a.length + j) v = a ++ b.set j v ++ c := by
   rw [List.append_assoc, List.set_append_right _ _ (by omega), Nat.add_sub_cancel_left, List.set_append_left _ _ hj, List.append_assoc]
  show wrL ((a ++ b ++ c).set (a.length + j) v) (a.length + j + 1) vs = _
  rw [e, Nat.add_assoc, wrL_mid a c vs (b.set j v) (j + 1) (by rw [List.length_set]; omega)]
  rfl
section
variable {α : Type} {enc : α → List Value} {m : Nat} (hm : ∀ x, (enc x).length = m)
include hm
end
structure MixP (l : List Int) (i : Nat) : Prop where
 bd : ∀ m, m < i → ∃ v : Int, l[m]? = some v ∧ 0 ≤ v ∧ v < i
 inj : ∀ m m' : Nat, m < i → m' < i → l[m]? = l[m']? → m = m'
theorem MixP.zero (l : List Int) : MixP l 0 := ⟨fun m h => absurd h (Nat.not_lt_zero m), fun m _ h => absurd h (Nat.not_lt_zero m)⟩
def mixS (l : List Int) (i k : Nat) : List Int := (l.set i (l.getD k 0)).set k (i : Int)
theorem mixS_get {l : List Int} {i k : Nat} (hi : i < l.length) (hk : k ≤ i) (m : Nat) : (mixS l i k)[m]? = if m = k then some (i : Int) else if m = i then l[k]? else l[m]? := by
 unfold mixS
 have hkl : k < l.length := by omega
 rw [List.getElem?_set, List.length_set]
 by_cases h1 : k = m
 ·subst h1
  simp [hkl]
 rw [if_neg h1, if_neg (fun e => h1 e.symm), List.getElem?_set]
 by_cases h2 : i = m
 ·subst h2
  simp [hi, List.getD_eq_getElem?_getD, List.getElem?_eq_getElem hkl]
 rw [if_neg h2, if_neg (fun e => h2 e.symm)]
theorem MixP.step {l : List Int} {i k : Nat} (P : MixP l i) (hi : i < l.length) (hk : k ≤ i) : MixP (mixS l i k) (i + 1) := by
 have gk : k < i → ∃ v : Int, l[k]? = some v ∧ 0 ≤ v ∧ v < i := fun h => P.bd k h
 constructor
 ·intro m hm
  rw [mixS_get hi hk]
  by_cases h1 : m = k
  ·rw [if_pos h1]; exact ⟨i, rfl, by omega, by omega⟩
  rw [if_neg h1]
  by_cases h2 : m = i
  ·rw [if_pos h2]
   obtain ⟨v, e, a, b⟩ := gk (by omega)
   exact ⟨v, e, a, by omega⟩
  rw [if_neg h2]
  obtain ⟨v, e, a, b⟩ := P.bd m (by omega)
  exact ⟨v, e, a, by omega⟩
 have val : ∀ m, m < i + 1 → ∃ v : Int, (mixS l i k)[m]? = some v ∧ (m ≠ k → v < i) ∧ (m = k → v = i) := by
  intro m hm
  rw [mixS_get hi hk]
  by_cases h1 : m = k
  ·rw [if_pos h1]; exact ⟨i, rfl, fun h => absurd h1 h, fun _ => rfl⟩
  rw [if_neg h1]
  by_cases h2 : m = i
  ·rw [if_pos h2]
   obtain ⟨v, e, a, b⟩ := gk (by omega)
   exact ⟨v, e, fun _ => b, fun h => absurd h h1⟩
  rw [if_neg h2]
  obtain ⟨v, e, a, b⟩ := P.bd m (by omega)
  exact ⟨v, e, fun _ => b, fun h => absurd h h1⟩
 intro m m' hm hm' e
 obtain ⟨v, e1, a1, b1⟩ := val m hm
 obtain ⟨v', e2, a2, b2⟩ := val m' hm'
 have hv : v = v' := by rw [e1, e2] at e; simpa using e
 by_cases h1 : m = k
 ·by_cases h2 : m' = k
  ·omega
  have := a2 h2; have := b1 h1; omega
 by_cases h2 : m' = k
 ·have := a1 h1; have := b2 h2; omega
 rw [mixS_get hi hk, mixS_get hi hk, if_neg h1, if_neg h2] at e
 by_cases h3 : m = i
 ·by_cases h4 : m' = i
  ·omega
  rw [if_pos h3, if_neg h4] at e
  have := P.inj k m' (by omega) (by omega) e
  omega
 by_cases h4 : m' = i
 ·rw [if_neg h3, if_pos h4] at e
  have := P.inj m k (by omega) (by omega) e
  omega
 rw [if_neg h3, if_neg h4] at e
 exact P.inj m m' (by omega) (by omega) e
theorem MixP.order {l : List Int} {n : Nat} (P : MixP l n) (hl : l.length = n) : Order l n := by
 refine ⟨hl, fun x hx => ?_, P.inj⟩
 obtain ⟨i, hi⟩ := List.mem_iff_getElem?.1 hx
 have := (List.getElem?_eq_some_iff.1 hi).1
 obtain ⟨v, e, a, b⟩ := P.bd i (by omega)
 rw [hi] at e
 cases e
 exact ⟨a, b⟩
end Go.Wx
namespace Go.Proofs.YtboigjfgpppeaaaGreatDoor
open Go Go.HL Go.Proofs Go.Wx
variable [Lvl]
set_option maxRecDepth 100000
end Go.Proofs.YtboigjfgpppeaaaGreatDoor
namespace Go.Proofs.YtboigjfgpppeaaaGreatDoor
open Go Go.HL Go.Proofs Go.Wx Go.RowKit
variable [Lvl]
set_option maxRecDepth 100000
end Go.Proofs.YtboigjfgpppeaaaGreatDoor
namespace Go.Proofs.YtboigjfgpppeaaaGreatDoor
open Go Go.HL Go.Proofs Go.Wx
variable [Lvl]
set_option maxRecDepth 100000
end Go.Proofs.YtboigjfgpppeaaaGreatDoor
namespace Go.Wx
open Go Go.HL
variable [Lvl]
end Go.Wx
namespace Go.Proofs.YtboigjfgpppeaaaGreatDoor
open Go Go.HL Go.Proofs Go.Wx
variable [Lvl]
set_option maxRecDepth 100000
def LLv (h : AH) (ls : List (List Int)) (vs : List Value) : Prop := vs.length = ls.length ∧ ∀ (i : Nat) l v, ls[i]? = some l → vs[i]? = some v → SlR h 1 intC l v
theorem LLv.ext {h h' : AH} {ls : List (List Int)} {vs : List Value} (x : LLv h ls vs) (E : Ext h h') : LLv h' ls vs := ⟨x.1, fun i l v a b => (x.2 i l v a b).ext E⟩
theorem LLv.nil {h : AH} : LLv h [] [] := ⟨rfl, fun i l v a _ => by simp at a⟩
theorem LLv.snoc {h : AH} {ls : List (List Int)} {vs : List Value} (x : LLv h ls vs) {l : List Int} {v : Value} (s : SlR h 1 intC l v) : LLv h (ls ++ [l]) (vs ++ [v]) := by
 refine ⟨by simp [x.1], fun i l' v' a b => ?_⟩
 by_cases hi : i < ls.length
 ·rw [List.getElem?_append_left hi] at a
  rw [List.getElem?_append_left (by rw [x.1]; exact hi)] at b
  exact x.2 i l' v' a b
 have h1 := (List.getElem?_eq_some_iff.1 a).1
 have hie : i = ls.length := by simp at h1; omega
 subst hie
 rw [List.getElem?_append_right (Nat.le_refl _), Nat.sub_self] at a
 rw [List.getElem?_append_right (by rw [x.1]; exact Nat.le_refl _), x.1, Nat.sub_self] at b
 simp at a b
 subst a b
 exact s
end Go.Proofs.YtboigjfgpppeaaaGreatDoor
namespace Go.Wx
open Go Go.HL
variable [Lvl]
end Go.Wx
namespace Go.Proofs.YtboigjfgpppeaaaGreatDoor
open Go Go.HL Go.Proofs Go.Wx Go.RowKit
variable [Lvl]
set_option maxRecDepth 100000
end Go.Proofs.YtboigjfgpppeaaaGreatDoor
namespace Go.Wx
open Go Go.HL
variable [Lvl]
theorem skies_at : ∀ (rs : List Rg) (k : Nat) (x y : Sky), k + rs.length ≤ 6 → y ∈ skiesM rs k x → (∀ (i : Nat) r, rs[i]? = some r → r.mn ≤ y.at (k + i) ∧ y.at (k + i) ≤ r.mx) ∧ ∀ i, i < 6 → i < k ∨ k + rs.length ≤ i → y.at i = x.at i
 | [], k, x, y, _, h => by
  rw [skiesM, List.mem_singleton] at h
  subst h
  exact ⟨fun i r hr => by simp at hr, fun _ _ _ => rfl⟩
 | r :: rs, k, x, y, hl, h => by
  rw [List.length_cons] at hl ⊢
  rw [skiesM, List.mem_flatMap] at h
  obtain ⟨n, hn, h⟩ := h
  rw [mem_rangeI] at hn
  obtain ⟨h1, h2⟩ := skies_at rs (k + 1) _ y (by omega) h
  have hk : y.at k = n := by rw [h2 k (by omega) (by omega), Sky.at_set x n (by omega) (by omega), if_pos rfl]
  refine ⟨fun i q hq => ?_, fun i hi hc => ?_⟩
  ·cases i with
   | zero => simp at hq; subst hq; rw [Nat.add_zero, hk]; omega
   | succ i =>
    have := h1 i q (by simpa using hq)
    rw [show k + 1 + i = k + (i + 1) by omega] at this
    exact this
  rw [h2 i hi (by omega), Sky.at_set x n (by omega) hi, if_neg (by omega)]
theorem mem_allSkies {s : Season} {n : Int} (h6 : (weatherM s n).length ≤ 6) {y : Sky} : y ∈ allSkies s n ↔ (∀ (i : Nat) r, (weatherM s n)[i]? = some r → r.mn ≤ y.at i ∧ y.at i ≤ r.mx) ∧ ∀ i, i < 6 → (weatherM s n).length ≤ i → y.at i = 0 := by
 have z : ∀ i, i < 6 → sky0.at i = 0 := fun i hi => by
  match i, hi with
  | 0, _ => rfl
  | 1, _ => rfl
  | 2, _ => rfl
  | 3, _ => rfl
  | 4, _ => rfl
  | 5, _ => rfl
  | i + 6, h => omega
 constructor
 ·intro h
  obtain ⟨h1, h2⟩ := skies_at _ 0 sky0 y (by omega) h
  exact ⟨fun i r hr => by have := h1 i r hr; rwa [Nat.zero_add] at this, fun i hi hl => by rw [h2 i hi (by omega), z i hi]⟩
 rintro ⟨h1, h2⟩
 exact mem_skies _ 0 sky0 (by omega) (fun i r hr => by rw [Nat.zero_add]; exact h1 i r hr) (fun i hi hc => by rw [h2 i hi (by omega), z i hi])
theorem last_le {m m' : Nat} (h : ∀ w', w' < 7 → m'.testBit w' = true → ∃ w, w' ≤ w ∧ w < 7 ∧ m.testBit w = true) (hm : listM m' ≠ []) : (listM m').getLastD 0 ≤ (listM m).getLastD 0 := by
 have hl : (listM m').getLastD 0 ∈ listM m' := by
  rw [List.getLastD_eq_getLast?, List.getLast?_eq_some_getLast hm]
  exact List.getLast_mem hm
 obtain ⟨i, e, hi, hb⟩ := kU hl
 obtain ⟨w, h1, h2, h3⟩ := h i hi hb
 have hmem : ((w : Nat) : Int) ∈ listM m := mem_listN.2 ⟨w, rfl, h2, h3⟩
 have hne : listM m ≠ [] := List.ne_nil_of_mem hmem
 have hg : (w : Int) ≤ (listM m).getLastD 0 := by
  rw [List.getLastD_eq_getLast?, List.getLast?_eq_some_getLast hne, Option.getD_some]
  have hp : (listM m).Pairwise (· < ·) := listN_pair m 7
  obtain ⟨k, hk⟩ := List.mem_iff_getElem?.1 hmem
  obtain ⟨hkl, hke⟩ := List.getElem?_eq_some_iff.1 hk
  rw [List.getLast_eq_getElem, ← hke]
  by_cases hkk : k = (listM m).length - 1
  ·subst hkk; exact Int.le_refl _
  have := List.pairwise_iff_getElem.1 hp k ((listM m).length - 1) hkl (by omega) (by omega)
  omega
 omega
end Go.Wx
namespace Go.Proofs.YtboigjfgpppeaaaGreatDoor
open Go Go.HL Go.Proofs Go.Wx
variable [Lvl]
set_option maxRecDepth 100000
end Go.Proofs.YtboigjfgpppeaaaGreatDoor
namespace Go.Proofs.YtboigjfgpppeaaaGreatDoor
open Go Go.HL Go.Proofs Go.Wx
variable [Lvl]
set_option maxRecDepth 100000
theorem rgEqD (d : Nat) (a b : Rg) : pev Tryz.prog (Op.equalIn (d + 2) 56 (.agg #[.int .i64 a.mn, .int .i64 a.mx]) (.agg #[.int .i64 b.mn, .int .i64 b.mx])) = some (decide (a = b)) := by
 have h1 := eq_struct (P:=Tryz.prog) (t:=56) (d:=d + 1) (fs:=[_, _]) (xs:=#[.int .i64 a.mn, .int .i64 a.mx]) (ys:=#[.int .i64 b.mn, .int .i64 b.mx]) (rs:=[a.mn == b.mn, a.mx == b.mx]) rfl (by kernel_rfl) rfl ?_
 ·refine h1.trans ?_
  obtain ⟨a1, a2⟩ := a
  obtain ⟨b1, b2⟩ := b
  simp only [List.all_cons, List.all_nil, id, Bool.and_true, Option.some.injEq]
  rw [Bool.eq_iff_iff]
  simp
 intro i f r hf hr
 match i, hf, hr with
 | 0, hf, hr => cases hf; cases hr; exact ⟨by decide, _, _, rfl, rfl, kB rfl _ _⟩
 | 1, hf, hr => cases hf; cases hr; exact ⟨by decide, _, _, rfl, rfl, kB rfl _ _⟩
 | i + 2, hf, hr => simp at hf
theorem rgEq (a b : Rg) : pev Tryz.prog (Op.equalIn Op.maxDepth 56 (.agg (rgC a).toArray) (.agg (rgC b).toArray)) = some (decide (a = b)) := rgEqD 9998 a b
theorem jointEq (a b : Joint) : pev Tryz.prog (Op.equalIn Op.maxDepth 60 (.agg (jointC a).toArray) (.agg (jointC b).toArray)) = some (decide (a = b)) := by
 have h1 := eq_struct (P:=Tryz.prog) (t:=60) (d:=9999) (fs:=[_, _, _, _, _]) (xs:=(jointC a).toArray) (ys:=(jointC b).toArray) (rs:=[a.kind == b.kind, decide (a.high = b.high), decide (a.low = b.low), decide (a.weeks = b.weeks), decide (a.life = b.life)]) rfl (by kernel_rfl) rfl ?_
 ·refine h1.trans ?_
  obtain ⟨a1, a2, a3, a4, a5⟩ := a
  obtain ⟨b1, b2, b3, b4, b5⟩ := b
  simp only [List.all_cons, List.all_nil, id, Bool.and_true, Option.some.injEq]
  rw [Bool.eq_iff_iff]
  simp
 intro i f r hf hr
 match i, hf, hr with
 | 0, hf, hr => cases hf; cases hr; exact ⟨by decide, _, _, rfl, rfl, kB rfl _ _⟩
 | 1, hf, hr => cases hf; cases hr; exact ⟨by decide, _, _, rfl, rfl, rgEqD 9997 _ _⟩
 | 2, hf, hr => cases hf; cases hr; exact ⟨by decide, _, _, rfl, rfl, rgEqD 9997 _ _⟩
 | 3, hf, hr => cases hf; cases hr; exact ⟨by decide, _, _, rfl, rfl, rgEqD 9997 _ _⟩
 | 4, hf, hr => cases hf; cases hr; exact ⟨by decide, _, _, rfl, rfl, rgEqD 9997 _ _⟩
 | i + 5, hf, hr => simp at hf
theorem seenEq (a b : Seen) : pev Tryz.prog (Op.equalIn Op.maxDepth 63 (.agg (seenC a).toArray) (.agg (seenC b).toArray)) = some (decide (a = b)) := by
 have h1 := eq_struct (P:=Tryz.prog) (t:=63) (d:=9999) (fs:=[_, _, _]) (xs:=(seenC a).toArray) (ys:=(seenC b).toArray) (rs:=[a.joint == b.joint, a.week == b.week, a.failed == b.failed]) rfl (by kernel_rfl) rfl ?_
 ·refine h1.trans ?_
  obtain ⟨a1, a2, a3⟩ := a
  obtain ⟨b1, b2, b3⟩ := b
  simp only [List.all_cons, List.all_nil, id, Bool.and_true, Option.some.injEq]
  rw [Bool.eq_iff_iff]
  simp [and_assoc]
 intro i f r hf hr
 match i, hf, hr with
 | 0, hf, hr => cases hf; cases hr; exact ⟨by decide, _, _, rfl, rfl, kB rfl _ _⟩
 | 1, hf, hr => cases hf; cases hr; exact ⟨by decide, _, _, rfl, rfl, kB rfl _ _⟩
 | 2, hf, hr => cases hf; cases hr; exact ⟨by decide, _, _, rfl, rfl, eq_bool rfl _ _⟩
 | i + 3, hf, hr => simp at hf
def sameN {α : Type} [DecidableEq α] (p : Bool) (a b : List α) (k : Nat) : Bool := p && decide (a.take k = b.take k)
theorem sameN_zero {α : Type} [DecidableEq α] (p : Bool) (a b : List α) : sameN p a b 0 = p := by simp [sameN]
theorem sameN_succ {α : Type} [DecidableEq α] {a b : List α} {k : Nat} (ha : k < a.length) (hb : k < b.length) (h : sameN true a b k = true) : sameN true a b (k + 1) = decide (a[k] = b[k]) := by
 unfold sameN at h ⊢
 simp only [Bool.true_and, decide_eq_true_eq] at h
 rw [Bool.true_and, take_snoc ha, take_snoc hb, h, decide_eq_decide]
 constructor
 ·intro e
  have := List.append_cancel_left e
  injection this
 intro e; rw [e]
theorem sameN_all {α : Type} [DecidableEq α] {a b : List α} (hl : a.length = b.length) (p : Bool) : sameN p a b a.length = (p && decide (a = b)) := by
 unfold sameN
 rw [List.take_length, hl, List.take_length]
theorem sameN_no {α : Type} [DecidableEq α] {a b : List α} {k : Nat} {p : Bool} (h : sameN p a b k = false) : (p && decide (a = b)) = false := by
 unfold sameN at h
 cases p with
 | false => rfl
 | true =>
  rw [Bool.true_and, decide_eq_false_iff_not] at h ⊢
  intro e; rw [e] at h; exact h rfl
theorem sameRanges_ok (a b : List Rg) (A B : Option Addr) (ca cb : Nat) (h : AH) (Ra : Row h 2 rgC A a) (Rb : Row h 2 rgC B b) (ha : a.length < 2 ^ 40) :
  FnT Tryz.prog 37 #[.slice A a.length ca, .slice B b.length cb] h (fun v _ => v = .bool (decide (a = b))) := by
 refine qW Tryz.func37 rfl Tryz.ntmps37 rfl ?_
 refine qC (qA rfl ?_)
 refine asB rfl ?_
 refine qC (qA rfl ?_)
 refine mvS rfl ?_
 refine qB (wP rfl rfl) ?_
 refine mvS rfl ?_
 refine qB (wP rfl rfl) ?_
 refine pvB rfl ?_
 refine asB rfl ?_
 refine qC (qC (qA rfl ?_))
 refine asI rfl ?_
 refine qT ?_
 obtain ⟨p, hp⟩ : ∃ p, decide (a.length = b.length) = p := ⟨_, rfl⟩
 have hp' : Value.bool ((a.length : Int) == (b.length : Int)) = .bool p := by rw [natBeq, hp]
 refine zF [5, 6, 12, 13, 14, 15, 16, 17, 18, 19, 20, 21, 22, 23, 24, 25, 26, 27, 28, 29] 0 (α:=Nat) (fun k => [(5, .bool (sameN p a b k)), (6, .int .i64 k)]) (fun k => _) (fun k h_k => k ≤ a.length) (fun k => a.length - k) (0) ⟨(by rw [sameN_zero]; exact hp'), rfl, trivial⟩ (rfl) (Nat.zero_le _) ?_
 rintro k T1 h_k E_k J_k
 refine qR [] rfl ?_
 obtain ⟨q, hq⟩ : ∃ q, sameN p a b k = q := ⟨_, rfl⟩
 rw [hq]
 cases q with
 | false =>
  refine qC (qC (qA rfl ?_))
  refine mvB rfl ?_
  refine mvB rfl ?_
  refine qI rfl rfl ?_
  refine qI rfl rfl ?_
  refine qI rfl rfl ?_
  refine qI rfl rfl ?_
  refine qB (wM rfl rfl (v:=.bool _) rfl) ?_
  refine wS rfl (rfl) ?_
  refine wV ?_
  refine qC (qA rfl ?_)
  refine mvB rfl ?_
  refine asB rfl ?_
  refine qQ ?_
  refine qJ (vs:=[_]) Tryz.results37 ⟨qG rfl rfl, trivial⟩ fun V => ?_
  exact ⟨(kX E_k (qN V)), congrArg Value.bool (by have e := sameN_no hq; rw [← hp] at e; cases hd : decide (a = b) with | false => rfl | true => rw [hd] at e; have := of_decide_eq_true hd; subst this; simp at e)⟩
 | true =>
  have hpt : p = true := by cases p with | true => rfl | false => cases hq
  subst hpt
  have hlen : a.length = b.length := of_decide_eq_true hp
  refine qC (qC (qA rfl ?_))
  refine mvB rfl ?_
  refine mvB rfl ?_
  refine qF rfl rfl ?_
  refine mvI rfl ?_
  refine qF rfl rfl ?_
  refine mvS rfl ?_
  refine qF rfl rfl ?_
  refine qB (wP rfl rfl) ?_
  refine qF rfl rfl ?_
  refine pvB rfl ?_
  refine qB (wN rfl rfl (v:=.bool _) rfl) ?_
  refine qP rfl (fun ht => ?_) (fun ht => ?_)
  ·skip
   have hlt : k < a.length := ltI ht
   have hlt2 : k < b.length := by omega
   obtain ⟨g, off, hA, hc⟩ := (Ra.ext E_k).at (by omega) hlt
   obtain ⟨g2, off2, hB, hc2⟩ := (Rb.ext E_k).at (by omega) hlt2
   refine qM ?_
   refine qC ?_
   refine qT ?_
   refine zL [] rfl rfl rfl ?_
   refine qE (i:=0) rfl (by decide +kernel) (qK (v:=.slice _ _ _) rfl) ?_
   refine qE (i:=1) rfl (by decide +kernel) (qK (v:=.int .i64 _) rfl) ?_
   refine qE (i:=2) rfl (by decide +kernel) (wK rfl hA rfl rfl rfl (by omega) (by omega)) ?_
   refine wD (i:=3) rfl (by decide +kernel) ?_
   refine zH rfl rfl rfl rfl (hc) ?_
   refine qE (i:=4) rfl (by decide +kernel) (qK (v:=.slice _ _ _) rfl) ?_
   refine qE (i:=5) rfl (by decide +kernel) (qK (v:=.int .i64 _) rfl) ?_
   refine qE (i:=6) rfl (by decide +kernel) (wK rfl hB rfl rfl rfl (by omega) (by omega)) ?_
   refine wD (i:=7) rfl (by decide +kernel) ?_
   refine zH rfl rfl rfl rfl (hc2) ?_
   refine qE (i:=8) rfl (by decide +kernel) (pv_eqA rfl rfl (by kernel_rfl) (rgEq _ _)) ?_
   refine qE (i:=9) rfl (by decide +kernel) (wA (v:=.bool _) rfl) ?_
   refine zB rfl ?_
   refine qA rfl ?_
   refine mvI rfl ?_
   refine qB (qO rfl (by omega)) ?_
   refine asI rfl ?_
   refine ⟨k + 1, ⟨(by rw [sameN_succ hlt hlt2 hq]; rfl), rfl, trivial⟩, rfl, rfl, E_k, fun h3 E3 => hlt, by first | omega | (dsimp only; omega), ?_⟩
   repeat (first | exact qV _ _ _ | refine qX (by decide) ?_ | refine qU rfl ?_ | refine qY rfl ?_)
  skip
  have hke : k = a.length := by have := geI ht; omega
  subst hke
  refine wV ?_
  refine qC (qA rfl ?_)
  refine mvB rfl ?_
  refine asB rfl ?_
  refine qQ ?_
  refine qJ (vs:=[_]) Tryz.results37 ⟨qG rfl rfl, trivial⟩ fun V => ?_
  exact ⟨(kX E_k (qN V)), congrArg Value.bool (by rw [sameN_all hlen] at hq; rw [← hq]; rfl)⟩
structure PreS (a b : Season) (p : Bool) : Prop where
 no : p = false → a ≠ b
 yes : p = true → a.heats = b.heats ∧ a.damps = b.damps ∧ a.joints.length = b.joints.length ∧ a.reports.length = b.reports.length
set_option maxHeartbeats 2000000 in
theorem sameSeasons_ok (a b : Season) (A0 A1 A2 A3 B0 B1 B2 B3 : Option Addr) (c0 c1 c2 c3 d0 d1 d2 d3 : Nat) (h : AH) (Ra : SeasonR h A0 A1 A2 A3 a) (Rb : SeasonR h B0 B1 B2 B3 b) (h0 : a.heats.length < 2 ^ 40) (h1 : a.damps.length < 2 ^ 40) (h2 : a.joints.length < 2 ^ 40) (h3 : a.reports.length < 2 ^ 40) :
  FnT Tryz.prog 14 #[seasonV A0 A1 A2 A3 c0 c1 c2 c3 a, seasonV B0 B1 B2 B3 d0 d1 d2 d3 b] h (fun v _ => v = .bool (decide (a = b))) := by
 refine qW Tryz.func14 rfl Tryz.ntmps14 rfl ?_
 refine qC (qA rfl ?_)
 refine zC (v:=.agg #[.slice _ _ _, .slice _ _ _, .slice _ _ _, .slice _ _ _]) (cs:=[_, _, _, _]) rfl rfl fun b2 hb2 => ?_
 refine qH [_] rfl ?_
 refine zC (v:=.agg #[.slice _ _ _, .slice _ _ _, .slice _ _ _, .slice _ _ _]) (cs:=[_, _, _, _]) rfl rfl fun b3 hb3 => ?_
 refine qH [_, _] rfl ?_
 refine asB rfl ?_
 refine zU [5, 8, 9, 10, 11, 12, 13, 14, 15, 16, 17, 18, 19, 20, 21, 22, 23, 24, 25, 26, 27, 28, 29, 30, 31, 32, 33, 34, 35, 36, 37] 2 (α:=Bool) (fun p => [(5, .bool p)]) (fun p L => L) (fun p h_p => PreS a b p) ?_ ?_
 ·skip
  refine qA rfl ?_
  refine qB (qD rfl rfl rfl rfl 0 rfl) ?_
  refine qL 0 (v:=.slice _ _ _) rfl rfl rfl rfl ?_
  refine qB (qD rfl rfl rfl rfl 0 rfl) ?_
  refine qL 1 (v:=.slice _ _ _) rfl rfl rfl rfl ?_
  have HS := sameRanges_ok a.heats b.heats A0 B0 c0 d0 h (Ra.heats.ext (Ext.refl _)) (Rb.heats.ext (Ext.refl _)) h0
  rcases Bool.eq_false_or_eq_true (decide (a.heats = b.heats)) with e1 | e1
  ·skip
   rw [e1] at HS
   have f1 := of_decide_eq_true e1
   refine wI (caps:=[]) (vs:=[.slice _ _ _, .slice _ _ _]) rfl rfl rfl (HS) ?_
   rintro _ g1 E1 rfl
   refine mvB rfl ?_
   refine qF rfl rfl ?_
   refine qB (qD rfl rfl rfl rfl 1 rfl) ?_
   refine qF rfl rfl ?_
   refine qL 0 (v:=.slice _ _ _) rfl rfl rfl rfl ?_
   refine qF rfl rfl ?_
   refine qB (qD rfl rfl rfl rfl 1 rfl) ?_
   refine qF rfl rfl ?_
   refine qL 1 (v:=.slice _ _ _) rfl rfl rfl rfl ?_
   refine qF rfl rfl ?_
   have HD := sameRanges_ok a.damps b.damps A1 B1 c1 d1 g1 (Ra.damps.ext E1) (Rb.damps.ext E1) h1
   rcases Bool.eq_false_or_eq_true (decide (a.damps = b.damps)) with e2 | e2
   ·skip
    rw [e2] at HD
    have f2 := of_decide_eq_true e2
    refine wI (caps:=[]) (vs:=[.slice _ _ _, .slice _ _ _]) rfl rfl rfl (HD) ?_
    rintro _ g2 E2 rfl
    rcases Bool.eq_false_or_eq_true ((a.joints.length : Int) == (b.joints.length : Int)) with e3 | e3
    ·skip
     have f3 : a.joints.length = b.joints.length := by simpa [natBeq] using e3
     refine qB (wN rfl rfl (v:=.bool _) rfl) ?_
     refine mvB rfl ?_
     refine qF rfl rfl ?_
     refine qB (qD rfl rfl rfl rfl 2 rfl) ?_
     refine qF rfl rfl ?_
     refine qL 0 (v:=.slice _ _ _) rfl rfl rfl rfl ?_
     refine qF rfl rfl ?_
     refine qB (wP rfl rfl) ?_
     refine qF rfl rfl ?_
     refine qB (qD rfl rfl rfl rfl 2 rfl) ?_
     refine qF rfl rfl ?_
     refine qL 1 (v:=.slice _ _ _) rfl rfl rfl rfl ?_
     refine qF rfl rfl ?_
     refine qB (wP rfl rfl) ?_
     refine qF rfl rfl ?_
     refine pvB rfl ?_
     refine qB (wN rfl rfl (v:=.bool _) rfl) ?_
     refine mvB rfl ?_
     refine qF rfl e3 ?_
     refine qB (qD rfl rfl rfl rfl 3 rfl) ?_
     refine qF rfl e3 ?_
     refine qL 0 (v:=.slice _ _ _) rfl rfl rfl rfl ?_
     refine qF rfl e3 ?_
     refine qB (wP rfl rfl) ?_
     refine qF rfl e3 ?_
     refine qB (qD rfl rfl rfl rfl 3 rfl) ?_
     refine qF rfl e3 ?_
     refine qL 1 (v:=.slice _ _ _) rfl rfl rfl rfl ?_
     refine qF rfl e3 ?_
     refine qB (wP rfl rfl) ?_
     refine qF rfl e3 ?_
     refine pvB rfl ?_
     refine qB (wN rfl e3 (v:=.bool _) rfl) ?_
     refine asB rfl ?_
     refine ⟨((a.reports.length : Int) == (b.reports.length : Int)), ⟨rfl, trivial⟩, rfl, rfl, (kX E1 E2), fun h3 E3 => ⟨fun e hh => by subst hh; simp at e, fun e => ⟨f1, f2, f3, by simpa [natBeq] using e⟩⟩, ?_⟩
     repeat (first | exact wQ _ _ | exact qV _ _ _ | refine qX (by decide) ?_ | refine qU rfl ?_ | refine qY rfl ?_)
    skip
    refine qB (wN rfl rfl (v:=.bool _) rfl) ?_
    refine mvB rfl ?_
    refine qF rfl rfl ?_
    refine qB (qD rfl rfl rfl rfl 2 rfl) ?_
    refine qF rfl rfl ?_
    refine qL 0 (v:=.slice _ _ _) rfl rfl rfl rfl ?_
    refine qF rfl rfl ?_
    refine qB (wP rfl rfl) ?_
    refine qF rfl rfl ?_
    refine qB (qD rfl rfl rfl rfl 2 rfl) ?_
    refine qF rfl rfl ?_
    refine qL 1 (v:=.slice _ _ _) rfl rfl rfl rfl ?_
    refine qF rfl rfl ?_
    refine qB (wP rfl rfl) ?_
    refine qF rfl rfl ?_
    refine pvB rfl ?_
    refine qB (wN rfl rfl (v:=.bool _) rfl) ?_
    refine mvB rfl ?_
    refine qI rfl e3 ?_
    refine qI rfl e3 ?_
    refine qI rfl e3 ?_
    refine qI rfl e3 ?_
    refine qI rfl e3 ?_
    refine qI rfl e3 ?_
    refine qI rfl e3 ?_
    refine qB (wM rfl e3 (v:=.bool _) rfl) ?_
    refine asB rfl ?_
    refine ⟨false, ⟨rfl, trivial⟩, rfl, rfl, (kX E1 E2), fun h3 E3 => ⟨fun _ hh => by subst hh; simp at e3, fun e => (by cases e)⟩, ?_⟩
    repeat (first | exact wQ _ _ | exact qV _ _ _ | refine qX (by decide) ?_ | refine qU rfl ?_ | refine qY rfl ?_)
   skip
   rw [e2] at HD
   refine wI (caps:=[]) (vs:=[.slice _ _ _, .slice _ _ _]) rfl rfl rfl (HD) ?_
   rintro _ g2 E2 rfl
   refine qB (wN rfl rfl (v:=.bool _) rfl) ?_
   refine mvB rfl ?_
   refine qI rfl rfl ?_
   refine qI rfl rfl ?_
   refine qI rfl rfl ?_
   refine qI rfl rfl ?_
   refine qI rfl rfl ?_
   refine qI rfl rfl ?_
   refine qI rfl rfl ?_
   refine qB (wM rfl rfl (v:=.bool _) rfl) ?_
   refine mvB rfl ?_
   refine qI rfl rfl ?_
   refine qI rfl rfl ?_
   refine qI rfl rfl ?_
   refine qI rfl rfl ?_
   refine qI rfl rfl ?_
   refine qI rfl rfl ?_
   refine qI rfl rfl ?_
   refine qB (wM rfl rfl (v:=.bool _) rfl) ?_
   refine asB rfl ?_
   refine ⟨false, ⟨rfl, trivial⟩, rfl, rfl, (kX E1 E2), fun h3 E3 => ⟨fun _ hh => by subst hh; simp at e2, fun e => (by cases e)⟩, ?_⟩
   repeat (first | exact wQ _ _ | exact qV _ _ _ | refine qX (by decide) ?_ | refine qU rfl ?_ | refine qY rfl ?_)
  skip
  rw [e1] at HS
  refine wI (caps:=[]) (vs:=[.slice _ _ _, .slice _ _ _]) rfl rfl rfl (HS) ?_
  rintro _ g1 E1 rfl
  refine mvB rfl ?_
  refine qI rfl rfl ?_
  refine qI rfl rfl ?_
  refine qI rfl rfl ?_
  refine qI rfl rfl ?_
  refine qI rfl rfl ?_
  refine qB (wM rfl rfl (v:=.bool _) rfl) ?_
  refine mvB rfl ?_
  refine qI rfl rfl ?_
  refine qI rfl rfl ?_
  refine qI rfl rfl ?_
  refine qI rfl rfl ?_
  refine qI rfl rfl ?_
  refine qI rfl rfl ?_
  refine qI rfl rfl ?_
  refine qB (wM rfl rfl (v:=.bool _) rfl) ?_
  refine mvB rfl ?_
  refine qI rfl rfl ?_
  refine qI rfl rfl ?_
  refine qI rfl rfl ?_
  refine qI rfl rfl ?_
  refine qI rfl rfl ?_
  refine qI rfl rfl ?_
  refine qI rfl rfl ?_
  refine qB (wM rfl rfl (v:=.bool _) rfl) ?_
  refine asB rfl ?_
  refine ⟨false, ⟨rfl, trivial⟩, rfl, rfl, E1, fun h3 E3 => ⟨fun _ hh => by subst hh; simp at e1, fun e => (by cases e)⟩, ?_⟩
  repeat (first | exact wQ _ _ | exact qV _ _ _ | refine qX (by decide) ?_ | refine qU rfl ?_ | refine qY rfl ?_)
 rintro p T1 h_p E_p J_p
 refine qR [_, _] rfl ?_
 refine zU [5, 6, 38, 39, 40, 41, 42, 43, 44, 45, 46, 47, 48, 49, 50, 51, 52, 53, 54, 55, 56, 57, 58] 2 (α:=Bool) (fun u => [(5, .bool u)]) (fun u L => L) (fun u h_u => u = (p && decide (a.joints = b.joints))) ?_ ?_
 ·skip
  refine qC (qA rfl ?_)
  refine asI rfl ?_
  refine qT ?_
  refine zF [5, 6, 38, 39, 40, 41, 42, 43, 44, 45, 46, 47, 48, 49, 50, 51, 52, 53, 54, 55, 56, 57, 58] 2 (α:=Nat) (fun k => [(5, .bool (sameN p a.joints b.joints k)), (6, .int .i64 k)]) (fun k => _) (fun k h_k => k ≤ a.joints.length) (fun k => a.joints.length - k) (0) ⟨congrArg Value.bool (sameN_zero _ _ _).symm, rfl, trivial⟩ (rfl) (Nat.zero_le _) ?_
  rintro k T3 h_k E_k J_k
  refine qR [_, _] rfl ?_
  obtain ⟨q, hq⟩ : ∃ q, sameN p a.joints b.joints k = q := ⟨_, rfl⟩
  rw [hq]
  cases q with
  | false =>
   refine qC (qC (qA rfl ?_))
   refine mvB rfl ?_
   refine mvB rfl ?_
   refine qI rfl rfl ?_
   refine qI rfl rfl ?_
   refine qI rfl rfl ?_
   refine qI rfl rfl ?_
   refine qI rfl rfl ?_
   refine qB (wM rfl rfl (v:=.bool _) rfl) ?_
   refine wS rfl (rfl) ?_
   refine wV ?_
   refine ⟨false, ⟨rfl, trivial⟩, rfl, rfl, E_k, fun h3 E3 => (sameN_no hq).symm, ?_⟩
   repeat (first | exact wQ _ _ | exact qV _ _ _ | refine qX (by decide) ?_ | refine qU rfl ?_ | refine qY rfl ?_)
  | true =>
   have hpt : p = true := by cases hPP : p with | true => rfl | false => rw [hPP] at hq; cases hq
   have hlen : a.joints.length = b.joints.length := (J_p.yes hpt).2.2.1
   refine qC (qC (qA rfl ?_))
   refine mvB rfl ?_
   refine mvB rfl ?_
   refine qF rfl rfl ?_
   refine mvI rfl ?_
   refine qF rfl rfl ?_
   refine qB (qD rfl rfl rfl rfl 2 rfl) ?_
   refine qF rfl rfl ?_
   refine qL 0 (v:=.slice _ _ _) rfl rfl rfl rfl ?_
   refine qF rfl rfl ?_
   refine qB (wP rfl rfl) ?_
   refine qF rfl rfl ?_
   refine pvB rfl ?_
   refine qB (wN rfl rfl (v:=.bool _) rfl) ?_
   refine qP rfl (fun ht => ?_) (fun ht => ?_)
   ·skip
    have hlt : k < a.joints.length := ltI ht
    have hlt2 : k < b.joints.length := by omega
    obtain ⟨g, off, hA, hc⟩ := (Ra.joints.ext (kX E_p E_k)).at (by omega) hlt
    obtain ⟨g2, off2, hB, hc2⟩ := (Rb.joints.ext (kX E_p E_k)).at (by omega) hlt2
    refine qM ?_
    refine qC ?_
    refine qT ?_
    refine zL [] rfl rfl rfl ?_
    refine qE (i:=0) rfl (by decide +kernel) (qD rfl rfl rfl rfl 2 rfl) ?_
    refine wD (i:=1) rfl (by decide +kernel) ?_
    refine qL 0 (v:=.slice _ _ _) rfl rfl rfl rfl ?_
    refine qE (i:=2) rfl (by decide +kernel) (qK (v:=.int .i64 _) rfl) ?_
    refine qE (i:=3) rfl (by decide +kernel) (wK rfl hA rfl rfl rfl (by omega) (by omega)) ?_
    refine wD (i:=4) rfl (by decide +kernel) ?_
    refine zH rfl rfl rfl rfl (hc) ?_
    refine qE (i:=5) rfl (by decide +kernel) (qD rfl rfl rfl rfl 2 rfl) ?_
    refine wD (i:=6) rfl (by decide +kernel) ?_
    refine qL 1 (v:=.slice _ _ _) rfl rfl rfl rfl ?_
    refine qE (i:=7) rfl (by decide +kernel) (qK (v:=.int .i64 _) rfl) ?_
    refine qE (i:=8) rfl (by decide +kernel) (wK rfl hB rfl rfl rfl (by omega) (by omega)) ?_
    refine wD (i:=9) rfl (by decide +kernel) ?_
    refine zH rfl rfl rfl rfl (hc2) ?_
    refine qE (i:=10) rfl (by decide +kernel) (pv_eqA rfl rfl (by kernel_rfl) (jointEq _ _)) ?_
    refine qE (i:=11) rfl (by decide +kernel) (wA (v:=.bool _) rfl) ?_
    refine zB rfl ?_
    refine qA rfl ?_
    refine mvI rfl ?_
    refine qB (qO rfl (by omega)) ?_
    refine asI rfl ?_
    refine ⟨k + 1, ⟨(by rw [hpt] at hq ⊢; rw [sameN_succ hlt hlt2 hq]; rfl), rfl, trivial⟩, rfl, rfl, E_k, fun h3 E3 => hlt, by first | omega | (dsimp only; omega), ?_⟩
    repeat (first | exact qV _ _ _ | refine qX (by decide) ?_ | refine qU rfl ?_ | refine qY rfl ?_)
   skip
   have hke : k = a.joints.length := by have := geI ht; omega
   subst hke
   refine wV ?_
   refine ⟨true, ⟨rfl, trivial⟩, rfl, rfl, E_k, fun h3 E3 => by rw [sameN_all hlen] at hq; exact hq.symm, ?_⟩
   repeat (first | exact wQ _ _ | exact qV _ _ _ | refine qX (by decide) ?_ | refine qU rfl ?_ | refine qY rfl ?_)
 rintro u T2 h_u E_u J_u
 refine qR [_, _] rfl ?_
 refine qC (qC (qA rfl ?_))
 refine asI rfl ?_
 refine qT ?_
 refine zF [5, 7, 59, 60, 61, 62, 63, 64, 65, 66, 67, 68, 69, 70, 71, 72, 73, 74, 75, 76, 77, 78, 79] 2 (α:=Nat) (fun k => [(5, .bool (sameN u a.reports b.reports k)), (7, .int .i64 k)]) (fun k => _) (fun k h_k => k ≤ a.reports.length) (fun k => a.reports.length - k) (0) ⟨congrArg Value.bool (sameN_zero _ _ _).symm, rfl, trivial⟩ (rfl) (Nat.zero_le _) ?_
 rintro k T4 h_k E_k J_k
 refine qR [_, _] rfl ?_
 obtain ⟨q, hq⟩ : ∃ q, sameN u a.reports b.reports k = q := ⟨_, rfl⟩
 rw [hq]
 cases q with
 | false =>
  refine qC (qC (qA rfl ?_))
  refine mvB rfl ?_
  refine mvB rfl ?_
  refine qI rfl rfl ?_
  refine qI rfl rfl ?_
  refine qI rfl rfl ?_
  refine qI rfl rfl ?_
  refine qI rfl rfl ?_
  refine qB (wM rfl rfl (v:=.bool _) rfl) ?_
  refine wS rfl (rfl) ?_
  refine wV ?_
  refine qC (qA rfl ?_)
  refine mvB rfl ?_
  refine asB rfl ?_
  refine qQ ?_
  refine qJ (vs:=[_]) Tryz.results14 ⟨qG rfl rfl, trivial⟩ fun V => ?_
  refine ⟨(kX (kX (kX E_p E_u) E_k) (qN V)), congrArg Value.bool ?_⟩
  have e := sameN_no hq
  rw [J_u] at e
  cases hd : decide (a = b) with
  | false => rfl
  | true =>
   have := of_decide_eq_true hd
   subst this
   have hp : p = true := by cases hp : p with | true => rfl | false => exact absurd rfl (J_p.no hp)
   rw [hp] at e
   simp at e
 | true =>
  have hpt : u = true := by cases hPP : u with | true => rfl | false => rw [hPP] at hq; cases hq
  have hlen : a.reports.length = b.reports.length := (J_p.yes (by rw [J_u] at hpt; simp at hpt; exact hpt.1)).2.2.2
  refine qC (qC (qA rfl ?_))
  refine mvB rfl ?_
  refine mvB rfl ?_
  refine qF rfl rfl ?_
  refine mvI rfl ?_
  refine qF rfl rfl ?_
  refine qB (qD rfl rfl rfl rfl 3 rfl) ?_
  refine qF rfl rfl ?_
  refine qL 0 (v:=.slice _ _ _) rfl rfl rfl rfl ?_
  refine qF rfl rfl ?_
  refine qB (wP rfl rfl) ?_
  refine qF rfl rfl ?_
  refine pvB rfl ?_
  refine qB (wN rfl rfl (v:=.bool _) rfl) ?_
  refine qP rfl (fun ht => ?_) (fun ht => ?_)
  ·skip
   have hlt : k < a.reports.length := ltI ht
   have hlt2 : k < b.reports.length := by omega
   obtain ⟨g, off, hA, hc⟩ := (Ra.reports.ext (kX (kX E_p E_u) E_k)).at (by omega) hlt
   obtain ⟨g2, off2, hB, hc2⟩ := (Rb.reports.ext (kX (kX E_p E_u) E_k)).at (by omega) hlt2
   refine qM ?_
   refine qC ?_
   refine qT ?_
   refine zL [] rfl rfl rfl ?_
   refine qE (i:=0) rfl (by decide +kernel) (qD rfl rfl rfl rfl 3 rfl) ?_
   refine wD (i:=1) rfl (by decide +kernel) ?_
   refine qL 0 (v:=.slice _ _ _) rfl rfl rfl rfl ?_
   refine qE (i:=2) rfl (by decide +kernel) (qK (v:=.int .i64 _) rfl) ?_
   refine qE (i:=3) rfl (by decide +kernel) (wK rfl hA rfl rfl rfl (by omega) (by omega)) ?_
   refine wD (i:=4) rfl (by decide +kernel) ?_
   refine zH rfl rfl rfl rfl (hc) ?_
   refine qE (i:=5) rfl (by decide +kernel) (qD rfl rfl rfl rfl 3 rfl) ?_
   refine wD (i:=6) rfl (by decide +kernel) ?_
   refine qL 1 (v:=.slice _ _ _) rfl rfl rfl rfl ?_
   refine qE (i:=7) rfl (by decide +kernel) (qK (v:=.int .i64 _) rfl) ?_
   refine qE (i:=8) rfl (by decide +kernel) (wK rfl hB rfl rfl rfl (by omega) (by omega)) ?_
   refine wD (i:=9) rfl (by decide +kernel) ?_
   refine zH rfl rfl rfl rfl (hc2) ?_
   refine qE (i:=10) rfl (by decide +kernel) (pv_eqA rfl rfl (by kernel_rfl) (seenEq _ _)) ?_
   refine qE (i:=11) rfl (by decide +kernel) (wA (v:=.bool _) rfl) ?_
   refine zB rfl ?_
   refine qA rfl ?_
   refine mvI rfl ?_
   refine qB (qO rfl (by omega)) ?_
   refine asI rfl ?_
   refine ⟨k + 1, ⟨(by rw [hpt] at hq ⊢; rw [sameN_succ hlt hlt2 hq]; rfl), rfl, trivial⟩, rfl, rfl, E_k, fun h3 E3 => hlt, by first | omega | (dsimp only; omega), ?_⟩
   repeat (first | exact qV _ _ _ | refine qX (by decide) ?_ | refine qU rfl ?_ | refine qY rfl ?_)
  skip
  have hke : k = a.reports.length := by have := geI ht; omega
  subst hke
  refine wV ?_
  refine qC (qA rfl ?_)
  refine mvB rfl ?_
  refine asB rfl ?_
  refine qQ ?_
  refine qJ (vs:=[_]) Tryz.results14 ⟨qG rfl rfl, trivial⟩ fun V => ?_
  refine ⟨(kX (kX (kX E_p E_u) E_k) (qN V)), congrArg Value.bool ?_⟩
  rw [sameN_all hlen, J_u] at hq
  simp only [Bool.and_eq_true, decide_eq_true_eq] at hq
  obtain ⟨y1, y2, _, _⟩ := J_p.yes hq.1.1
  have : a = b := by
   obtain ⟨q1, q2, q3, q4⟩ := a
   obtain ⟨r1, r2, r3, r4⟩ := b
   simp only at y1 y2 hq
   rw [y1, y2, hq.1.2, hq.2]
  rw [decide_eq_true this]
end Go.Proofs.YtboigjfgpppeaaaGreatDoor
namespace Go.Wx
open Go Go.HL
variable [Lvl]
end Go.Wx
namespace Go.Wx
open Go Go.HL
variable [Lvl]
theorem CheckS.b {s : Season} (c : CheckS s) : SeasonB s := (yR c.ok).b
end Go.Wx
namespace Go.Proofs.YtboigjfgpppeaaaGreatDoor
open Go Go.HL Go.Proofs Go.Wx
variable [Lvl]
set_option maxRecDepth 100000
end Go.Proofs.YtboigjfgpppeaaaGreatDoor
namespace Go.Proofs.YtboigjfgpppeaaaGreatDoor
open Go Go.HL Go.Proofs Go.Wx
variable [Lvl]
set_option maxRecDepth 100000
end Go.Proofs.YtboigjfgpppeaaaGreatDoor
namespace Go.Wx
open Go Go.HL
variable [Lvl]
end Go.Wx
namespace Go.Proofs.YtboigjfgpppeaaaGreatDoor
open Go Go.HL Go.Proofs Go.Wx
variable [Lvl]
set_option maxRecDepth 100000
end Go.Proofs.YtboigjfgpppeaaaGreatDoor
namespace Go.Proofs.YtboigjfgpppeaaaGreatDoor
open Go Go.HL Go.Proofs Go.Wx
variable [Lvl]
set_option maxRecDepth 100000
end Go.Proofs.YtboigjfgpppeaaaGreatDoor
namespace Go.Proofs.YtboigjfgpppeaaaGreatDoor
open Go Go.HL Go.Proofs Go.Wx
variable [Lvl]
set_option maxRecDepth 100000
end Go.Proofs.YtboigjfgpppeaaaGreatDoor
