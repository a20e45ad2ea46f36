/- An own logic over the model, its walks and its plain laws, joined of parts W25 Tb Tc Td U CC W26 Te W27 W28 Tf Tg W29 W30 W31 Th W32 Ti W33 Tj W34 W35 P7 Uz. Conditions: as each theorem states. -/
import Derived.Test.YtboigjfgpppeaaaGreatDoorLa6
import Derived.Test.YtboigjfgpppeaaaGreatDoorLa1
import Derived.Test.YtboigjfgpppeaaaGreatDoorLa2
import Derived.Test.YtboigjfgpppeaaaGreatDoorLa4
import Derived.Test.YtboigjfgpppeaaaGreatDoorRows
import Derived.Deep.Slices
import Derived.ProofKit
set_option linter.all false
namespace Go.Proofs.YtboigjfgpppeaaaGreatDoor
open Go Go.HL Go.Proofs Go.Wx
variable [Lvl]
set_option maxRecDepth 100000
structure WAc (q : WA) : Prop where
 r1 : AccR 3 1 (q.ht.flatMap intC) q.a1
 r2 : AccR 3 1 (q.dt.flatMap intC) q.a2
 r3 : AccR 56 2 (q.hs.flatMap rgC) q.a3
 r4 : AccR 56 2 (q.ds.flatMap rgC) q.a4
theorem memS {α : Type} {l : List α} {p : α → Prop} (h : ∀ x ∈ l, p x) {y : α} (hy : p y) : ∀ x ∈ l ++ [y], p x := fun x hx => by
 rcases List.mem_append.1 hx with h1 | h1
 ·exact h x h1
 ·rw [List.mem_singleton.1 h1]; exact hy
structure CutJ where
 x : Nat
 hi : Int
 lo : Int
 A : Option Addr
 c : Nat
 l : List Int
theorem perm_two {α : Type} (l1 l2 l3 : List α) (p q : α) : (l1 ++ p :: (l2 ++ q :: l3)).Perm (p :: q :: (l1 ++ (l2 ++ l3))) := by
 refine List.perm_middle.trans (List.Perm.cons p ?_)
 rw [← List.append_assoc, ← List.append_assoc]
 exact List.perm_middle
theorem wl_two {h : AH} {a p q : Option (Nat × Obj)} (l1 l2 l3 : Pv) (V : Valid h (a :: (l1 ++ p :: (l2 ++ q :: l3)))) : ∃ h', Ext h h' ∧ wl h (a :: (l1 ++ p :: (l2 ++ q :: l3))) = wl h' [a, p, q] ∧ Valid h' [a, p, q] := by
 obtain ⟨e, V'⟩ := wl_perm (L' := [a, p, q] ++ (l1 ++ (l2 ++ l3))) (((perm_two l1 l2 l3 p q).cons a).filterMap _) V
 obtain ⟨h', E, e2, V2⟩ := wl_drop (l1 ++ (l2 ++ l3)) [a, p, q] V'
 exact ⟨h', E, e.trans e2, V2⟩
theorem wl_open {h : AH} {a p q : Option (Nat × Obj)} (V : Valid h [a, p, q]) : ∃ h', Ext h h' ∧ wl h [a, p, q] = wl h' [a] ∧ Valid h' [a] ∧ (∀ b o, p = some (b, o) → h' b = some o) ∧ (∀ b o, q = some (b, o) → h' b = some o) := by
 obtain ⟨h', E, e, V'⟩ := wl_drop [p, q] [a] V
 have key : ∀ z, z ∈ [p, q] → ∀ b o, z = some (b, o) → h' b = some o := by
  intro z hz b o hzb
  have hm : (b, o) ∈ cl [a, p, q] := List.mem_filterMap.2 ⟨z, List.mem_cons_of_mem _ hz, hzb⟩
  have h1 : wl h [a, p, q] b = some o := by
   obtain ⟨i, hi⟩ := List.mem_iff_getElem?.1 (List.mem_cons_of_mem a hz)
   exact wl_get V (i := i) (by rw [hi, hzb])
  change wl h [a, p, q] = wl h' [a] at e
  rw [e] at h1
  have ha : ∀ o', a ≠ some (b, o') := by
   intro o' ha
   have nd := V.nd
   subst ha
   have h2 : cl [some (b, o'), p, q] = (b, o') :: cl [p, q] := rfl
   rw [h2, List.map_cons, List.nodup_cons] at nd
   refine nd.1 (List.mem_map.2 ⟨(b, o), List.mem_filterMap.2 ⟨z, hz, hzb⟩, rfl⟩)
  cases a with
  | none =>
   have : wl h' [none] = h' := rfl
   rw [this] at h1; exact h1
  | some c =>
   obtain ⟨b', o'⟩ := c
   have hne : b ≠ b' := fun e => ha o' (by rw [e])
   have : wl h' [some (b', o')] b = h' b := by
    unfold wl wl0
    have : (cl [some (b', o')]).lookup b = none := by
     show List.lookup b [(b', o')] = none
     rw [List.lookup_cons]
     have : (b == b') = false := by simpa using hne
     rw [this]; rfl
    simp only [this]
   rw [this] at h1; exact h1
 exact ⟨h', E, e, V', key p (by simp), key q (by simp)⟩
def wa0 (i : Int) (x : Nat) : WA := ⟨i, x, [], [], [], [], acc0, acc0, acc0, acc0⟩
set_option maxHeartbeats 8000000 in
theorem SeasonOf_okM (b x weeks joints reports : Nat) (hw : 1 ≤ weeks) (hw2 : weeks ≤ 6) (hj : joints ≤ 3) (hr : reports ≤ 100) (h : AH) :
  FnM Tryz.prog (.func (.func 7) #[] ([] : List Value).toArray) [.pointer (some ⟨b, 0, none⟩), .int .i64 weeks, .int .i64 joints, .int .i64 reports] h [some (b, .cells #[.int .u64 (x : Int)] 67 (0, 0))]
  (fun v h' M' => ∃ (x' : Nat) (s : Season) (ht dt fs : List Int) (u w : Value) (a5 a7 : Acc), M' = [some (b, .cells #[.int .u64 (x' : Int)] 67 (0, 0)), a5.p, a7.p] ∧ v = .tuple #[u, w] ∧ SeasonT weeks joints reports s ht dt fs
   ∧ AccR 60 9 (s.joints.flatMap jointC) a5 ∧ AccR 63 3 (s.reports.flatMap seenC) a7
   ∧ (∃ A0 c0 A1 c1, u = .agg #[.slice A0 s.heats.length c0, .slice A1 s.damps.length c1, .slice a5.A s.joints.length a5.c, .slice a7.A s.reports.length a7.c] ∧ Row h' 2 rgC A0 s.heats ∧ Row h' 2 rgC A1 s.damps)
   ∧ ∃ HA hc DA dc FA fc, w = .agg #[.slice HA ht.length hc, .slice DA dt.length dc, .slice FA fs.length fc] ∧ Row h' 1 intC HA ht ∧ Row h' 1 intC DA dt ∧ Row h' 1 intC FA fs) := by
 refine fnM_body rfl rfl Tryz.func7 rfl Tryz.ntmps7 rfl ?_
 refine qE ?_
 refine qB rfl ?_
 refine wL (cs := [_, _, _, _]) rfl rfl fun b8 hb8 => ?_
 refine qH [_, _] rfl ?_
 refine wL (cs := [_, _, _]) rfl rfl fun b9 hb9 => ?_
 refine qH [_, _, _] rfl ?_
 refine qE ?_
 refine qB rfl ?_
 refine wL (cs := [_, _, _, _]) rfl rfl fun b10 hb10 => ?_
 refine qH [_, _, _, _] rfl ?_
 refine qE ?_
 refine qB rfl ?_
 refine wL (cs := [_, _, _]) rfl rfl fun b11 hb11 => ?_
 refine qH [_, _, _, _, _] rfl ?_
 refine goes_more ?_
 refine qU [_, _, _, _, _, _] rfl ?_
 refine goes_more ?_
 refine qU [_, _, _, _, _, _, _] rfl ?_
 refine goes_more ?_
 refine qU [_, _, _, _, _, _, _, _] rfl ?_
 refine goes_more ?_
 refine qU [_, _, _, _, _, _, _, _, _] rfl ?_
 refine qE ?_
 refine qE ?_
 refine qB rfl ?_
 refine qA (qC (v := .pointer (some ⟨b, 0, none⟩)) rfl) ?_
 refine qA (qC (v := .int .i64 _) rfl) ?_
 refine op_fnMM [] [_] [_, _, _, _, _, _, _, _] (vs := [.pointer _, .int .i64 _, .int .i64 _]) rfl rfl rfl ((Within_ok b x 1 weeks (by omega) (by omega) (by omega) h)) ?_
 rintro _ h1 _ E1 ⟨x1, i0, rfl, rfl, i01, i02⟩
 refine qH [_, _, _, _, _, _, _, _, _] rfl ?_
 refine qA (qD (v := .int .i64 _) rfl) ?_
 refine qS ?_
 refine xp_loopL [12, 13, 14, 30, 31, 32, 33, 34, 35, 36, 37, 38, 39, 40, 41, 42, 43, 44, 45, 46, 47, 48, 49, 50, 51, 52, 53, 54, 55, 56, 57, 58, 59, 60, 61, 62, 63, 64, 65] 9 (α := WA) (fun q => [(12, .int .i64 q.i)]) (fun q L => ((((((L.set 0 (some (b, .cells #[.int .u64 (q.x : Int)] 67 (0, 0)))).set 3 (some (b10, .cells #[.slice q.a3.A q.a3.n q.a3.c, .slice q.a4.A q.a4.n q.a4.c, .slice none 0 0, .slice none 0 0] 26 (0, 0)))).set 4 (some (b11, .cells #[.slice q.a1.A q.a1.n q.a1.c, .slice q.a2.A q.a2.n q.a2.c, .slice none 0 0] 31 (0, 0)))).set 5 (q.a1.p)).set 6 (q.a2.p)).set 7 (q.a3.p)).set 8 (q.a4.p)) (fun q h_q => WOk weeks q ∧ WAc q) (fun q => q.i.toNat) (wa0 i0 x1) ⟨rfl, trivial⟩ (rfl) (⟨⟨by show 0 ≤ i0; omega, by show i0 + 0 ≤ _; omega, by show 1 ≤ i0 + 0; omega, rfl, NearL.nil, NearL.nil, fun _ h => (by cases h), fun _ h => (by cases h)⟩, ⟨accR0, accR0, accR0, accR0⟩⟩) ?_
 rintro q T1 h_q E_q J_q
 refine qU [_, _, _, _, _, _, _, _, _] rfl ?_
 obtain ⟨⟨j1, j2, j3, j4, j5, j6, j7, j8⟩, ⟨r1, r2, r3, r4⟩⟩ := J_q
 refine qE ?_
 refine qE ?_
 refine qB rfl ?_
 refine qA (qC (v := .int .i64 _) rfl) ?_
 refine qA (qK (v := .bool _) rfl) ?_
 refine qV rfl (fun ht => ?_) (fun ht => ?_)
 ·skip
  have hi : 0 < q.i := of_decide_eq_true ht
  have hl : q.ht.length ≤ 6 := by omega
  refine qN ?_
  refine qE ?_
  refine qS ?_
  refine qE ?_
  refine qB rfl ?_
  refine qA (qC (v := .pointer (some ⟨b, 0, none⟩)) rfl) ?_
  refine op_fnMM [] [_] [_, _, _, _, _, _, _, _] (vs := [.pointer _, .int .i64 _, .int .i64 _]) rfl rfl rfl ((Within_ok b q.x (-5) 35 (by omega) (by omega) (by omega) h_q)) ?_
  rintro _ h2 _ E2 ⟨x2, t, rfl, rfl, t1, t2⟩
  refine qH [_, _, _, _, _, _, _, _, _] rfl ?_
  refine qA (qC (v := .pointer (some ⟨b, 0, none⟩)) rfl) ?_
  refine op_fnMM [] [_] [_, _, _, _, _, _, _, _] (vs := [.pointer _, .int .i64 _, .int .i64 _]) rfl rfl rfl ((Within_ok b x2 30 70 (by omega) (by omega) (by omega) h2)) ?_
  rintro _ h3 _ E3 ⟨x3, d, rfl, rfl, d1, d2⟩
  refine qH [_, _, _, _, _, _, _, _, _] rfl ?_
  refine qA (qD (v := .int .i64 _) rfl) ?_
  refine qA (qD (v := .int .i64 _) rfl) ?_
  refine qE ?_
  refine xp_dw [false, false, false, false, false, true, true] rfl rfl rfl ?_
  refine qG (i := 0) rfl (by decide +kernel) (qF rfl rfl rfl rfl 0 rfl) ?_
  refine wH (i := 1) rfl (by decide +kernel) ?_
  refine qO 4 (v := .slice _ _ _) rfl rfl rfl rfl ?_
  refine qG (i := 2) rfl (by decide +kernel) (qC (v := .int .i64 _) rfl) ?_
  refine qG (i := 5) rfl (by decide +kernel) (qF rfl rfl rfl rfl 1 rfl) ?_
  refine wH (i := 6) rfl (by decide +kernel) ?_
  refine qO 4 (v := .slice _ _ _) rfl rfl rfl rfl ?_
  refine qG (i := 7) rfl (by decide +kernel) (qC (v := .int .i64 _) rfl) ?_
  refine wZ (i := 3) rfl (by decide +kernel) ?_
  refine wJ (zc := [_]) (vs := [(0, .int .i64 _)]) (cs := [_]) rfl rfl rfl rfl rfl rfl rfl fun b41 hb41 => ?_
  refine ⟨ext_newM hb41 _, ?_⟩
  refine wK [_, _, _, _, _, _, _, _, _, _] rfl ?_
  refine wZ (i := 4) rfl (by decide +kernel) ?_
  refine op_appendR 5 r1 rfl rfl rfl (fun V => rdP V (i := 9) rfl) rfl rfl rfl rfl rfl rfl rfl rfl rfl (by omega) rfl (by rw [wN (m := 1) (fun _ _ => rfl)]; simp; omega) fun a1 h2a E2a ra1 => ?_
  refine ⟨zE E2a _, ?_⟩
  refine wK [_, _, _, _, _, _, _, _, _, _] rfl ?_
  refine qG (i := 10) rfl (by decide +kernel) (qF rfl rfl rfl rfl 0 rfl) ?_
  refine wZ (i := 8) rfl (by decide +kernel) ?_
  refine wJ (zc := [_]) (vs := [(0, .int .i64 _)]) (cs := [_]) rfl rfl rfl rfl rfl rfl rfl fun b46 hb46 => ?_
  refine ⟨ext_newM hb46 _, ?_⟩
  refine wK [_, _, _, _, _, _, _, _, _, _, _] rfl ?_
  refine wW (i := 9) rfl (by decide +kernel) (by decide +kernel) ?_
  refine op_appendR 6 r2 rfl rfl rfl (fun V => rdP V (i := 10) rfl) rfl rfl rfl rfl rfl rfl rfl rfl rfl (by omega) rfl (by rw [wN (m := 1) (fun _ _ => rfl)]; simp; omega) fun a2 h3a E3a ra2 => ?_
  refine wK [_, _, _, _, _, _, _, _, _, _, _] rfl ?_
  refine wW (i := 11) rfl (by decide +kernel) (by decide +kernel) ?_
  refine qQ 4 (v := .slice _ _ _) (vs := [_]) (c' := [_, _, _]) rfl rfl rfl rfl rfl rfl rfl rfl rfl ?_
  refine wK [_, _, _, _, _, _, _, _, _, _, _] rfl ?_
  refine qG (i := 12) rfl (by decide +kernel) (qF rfl rfl rfl rfl 1 rfl) ?_
  refine wW (i := 13) rfl (by decide +kernel) (by decide +kernel) ?_
  refine qQ 4 (v := .slice _ _ _) (vs := [_]) (c' := [_, _, _]) rfl rfl rfl rfl rfl rfl rfl rfl rfl ?_
  refine wK [_, _, _, _, _, _, _, _, _, _, _] rfl ?_
  refine zC rfl ?_
  refine xp_dw [true, false, false, false, false, false, false, true, true] rfl rfl rfl ?_
  refine qG (i := 0) rfl (by decide +kernel) (qF rfl rfl rfl rfl 0 rfl) ?_
  refine wH (i := 1) rfl (by decide +kernel) ?_
  refine qO 3 (v := .slice _ _ _) rfl rfl rfl rfl ?_
  refine qG (i := 2) rfl (by decide +kernel) (qC (v := .pointer (some ⟨b, 0, none⟩)) rfl) ?_
  refine qG (i := 3) rfl (by decide +kernel) (qC (v := .int .i64 _) rfl) ?_
  refine qG (i := 7) rfl (by decide +kernel) (qF rfl rfl rfl rfl 1 rfl) ?_
  refine wH (i := 8) rfl (by decide +kernel) ?_
  refine qO 3 (v := .slice _ _ _) rfl rfl rfl rfl ?_
  refine qG (i := 9) rfl (by decide +kernel) (qC (v := .pointer (some ⟨b, 0, none⟩)) rfl) ?_
  refine qG (i := 10) rfl (by decide +kernel) (qC (v := .int .i64 _) rfl) ?_
  refine wZ (i := 4) rfl (by decide +kernel) ?_
  refine op_fnMM [] [_] [_, _, _, _, _, _, _, _, _, _] (vs := [.pointer _, .int .i64 _, .int .i64 _, .int .i64 _, .int .i64 _]) rfl rfl rfl ((Near_ok b x3 t (-50) 100 1 (by omega) (by omega) h3a)) ?_
  rintro _ h4 _ E4 ⟨x4, u4, w4, rfl, rfl, u41, u42, w41, w42⟩
  refine ⟨zE E4 _, ?_⟩
  refine wK [_, _, _, _, _, _, _, _, _, _, _] rfl ?_
  refine wZ (i := 5) rfl (by decide +kernel) ?_
  refine wJ (zc := [_, _]) (vs := [(0, .agg #[.int .i64 _, .int .i64 _])]) (cs := [_, _]) rfl rfl rfl rfl rfl rfl rfl fun b55 hb55 => ?_
  refine ⟨ext_newM hb55 _, ?_⟩
  refine wK [_, _, _, _, _, _, _, _, _, _, _, _] rfl ?_
  refine wZ (i := 6) rfl (by decide +kernel) ?_
  refine op_appendR 7 r3 rfl rfl rfl (fun V => rdP V (i := 11) rfl) rfl rfl rfl rfl rfl rfl rfl rfl rfl (by omega) rfl (by rw [wN (m := 2) (fun _ _ => rfl), j5.len]; simp; omega) fun a3 h4a E4a ra3 => ?_
  refine ⟨zE E4a _, ?_⟩
  refine wK [_, _, _, _, _, _, _, _, _, _, _, _] rfl ?_
  refine qG (i := 14) rfl (by decide +kernel) (qF rfl rfl rfl rfl 0 rfl) ?_
  refine wZ (i := 11) rfl (by decide +kernel) ?_
  refine op_fnMM [] [_] [_, _, _, _, _, _, _, _, _, _, _] (vs := [.pointer _, .int .i64 _, .int .i64 _, .int .i64 _, .int .i64 _]) rfl rfl rfl ((Near_ok b x4 d (-50) 100 1 (by omega) (by omega) h4a)) ?_
  rintro _ h5 _ E5 ⟨x5, u5, w5, rfl, rfl, u51, u52, w51, w52⟩
  refine ⟨zE E5 _, ?_⟩
  refine wK [_, _, _, _, _, _, _, _, _, _, _, _] rfl ?_
  refine wZ (i := 12) rfl (by decide +kernel) ?_
  refine wJ (zc := [_, _]) (vs := [(0, .agg #[.int .i64 _, .int .i64 _])]) (cs := [_, _]) rfl rfl rfl rfl rfl rfl rfl fun b62 hb62 => ?_
  refine ⟨ext_newM hb62 _, ?_⟩
  refine wK [_, _, _, _, _, _, _, _, _, _, _, _, _] rfl ?_
  refine wW (i := 13) rfl (by decide +kernel) (by decide +kernel) ?_
  refine op_appendR 8 r4 rfl rfl rfl (fun V => rdP V (i := 12) rfl) rfl rfl rfl rfl rfl rfl rfl rfl rfl (by omega) rfl (by rw [wN (m := 2) (fun _ _ => rfl), j6.len, j4]; simp; omega) fun a4 h5a E5a ra4 => ?_
  refine wK [_, _, _, _, _, _, _, _, _, _, _, _, _] rfl ?_
  refine wW (i := 15) rfl (by decide +kernel) (by decide +kernel) ?_
  refine qQ 3 (v := .slice _ _ _) (vs := [_]) (c' := [_, _, _, _]) rfl rfl rfl rfl rfl rfl rfl rfl rfl ?_
  refine wK [_, _, _, _, _, _, _, _, _, _, _, _, _] rfl ?_
  refine qG (i := 16) rfl (by decide +kernel) (qF rfl rfl rfl rfl 1 rfl) ?_
  refine wW (i := 17) rfl (by decide +kernel) (by decide +kernel) ?_
  refine qQ 3 (v := .slice _ _ _) (vs := [_]) (c' := [_, _, _, _]) rfl rfl rfl rfl rfl rfl rfl rfl rfl ?_
  refine wK [_, _, _, _, _, _, _, _, _, _, _, _, _] rfl ?_
  refine zC rfl ?_
  refine qB rfl ?_
  refine qA (qC (v := .int .i64 _) rfl) ?_
  refine qA (qR rfl (by omega)) ?_
  refine qA (qD (v := .int .i64 _) rfl) ?_
  refine ⟨⟨q.i - 1, x5, q.ht ++ [t], q.dt ++ [d], q.hs ++ [⟨max (-50) (t - u4), min 100 (t + w4)⟩], q.ds ++ [⟨max (-50) (d - u5), min 100 (d + w5)⟩], a1, a2, a3, a4⟩, ⟨rfl, trivial⟩, rfl, rfl, (zF (zF (zF (zF (zF (zF (zF (zF E_q E2) E3) E2a) E3a) E4) E4a) E5) E5a), fun h3 E3 => ⟨⟨by show 0 ≤ q.i - 1; omega, by show q.i - 1 + ((q.ht ++ [t]).length : Nat) ≤ _; simp; omega, by show 1 ≤ q.i - 1 + ((q.ht ++ [t]).length : Nat); simp; omega, by simp [j4], j5.snoc ⟨u4, w4, u41, u42, w41, w42, rfl⟩, j6.snoc ⟨u5, w5, u51, u52, w51, w52, rfl⟩, memS j7 ⟨t1, t2⟩, memS j8 ⟨d1, d2⟩⟩, ⟨by rw [List.flatMap_append]; exact ra1, by rw [List.flatMap_append]; exact ra2, by rw [List.flatMap_append]; exact ra3, by rw [List.flatMap_append]; exact ra4⟩⟩, by first | omega | (dsimp only; omega), ?_⟩
  repeat (first | exact qY _ _ _ | refine wE (by decide) ?_ | refine qW rfl ?_ | refine wG rfl ?_)
 ·skip
  have hi0 : q.i = 0 := by have := of_decide_eq_false ht; omega
  obtain ⟨qi, qx, wt, dt, hs, ds, ⟨p1, A1, n1, c1⟩, ⟨p2, A2, n2, c2⟩, ⟨p3, A3, n3, c3⟩, ⟨p4, A4, n4, c4⟩⟩ := q
  dsimp only at *
  have hwl : wt.length ≤ 6 := by omega
  obtain rfl : n1 = wt.length := by have := AccR.len r1; rw [wN (m := 1) (fun _ _ => rfl)] at this; dsimp only at this; omega
  obtain rfl : n2 = dt.length := by have := AccR.len r2; rw [wN (m := 1) (fun _ _ => rfl)] at this; dsimp only at this; omega
  obtain rfl : n3 = hs.length := by have := AccR.len r3; rw [wN (m := 2) (fun _ _ => rfl)] at this; dsimp only at this; omega
  obtain rfl : n4 = ds.length := by have := AccR.len r4; rw [wN (m := 2) (fun _ _ => rfl)] at this; dsimp only at this; omega
  refine goes_pubO 5 rfl ?_
  intro g1 G1 P1
  refine qU [_, _, _, _, _, _, _, _, _] rfl ?_
  refine goes_pubO 6 rfl ?_
  intro g2 G2 P2
  refine qU [_, _, _, _, _, _, _, _, _] rfl ?_
  refine goes_pubO 7 rfl ?_
  intro g3 G3 P3
  refine qU [_, _, _, _, _, _, _, _, _] rfl ?_
  refine goes_pubO 8 rfl ?_
  intro g4 G4 P4
  refine qU [_, _, _, _, _, _, _, _, _] rfl ?_
  have R1 : Row g4 1 intC A1 wt := ⟨fun _ _ => rfl, (AccR.rd r1 P1).ext (zF (zF G2 G3) G4)⟩
  have R2 : Row g4 1 intC A2 dt := ⟨fun _ _ => rfl, (AccR.rd r2 P2).ext (zF G3 G4)⟩
  have R3 : Row g4 2 rgC A3 hs := ⟨fun _ _ => rfl, (AccR.rd r3 P3).ext G4⟩
  have R4 : Row g4 2 rgC A4 ds := ⟨fun _ _ => rfl, AccR.rd r4 P4⟩
  refine goes_more ?_
  refine qU [_, _, _, _, _, _, _, _, _, _] rfl ?_
  refine goes_more ?_
  refine qU [_, _, _, _, _, _, _, _, _, _, _] rfl ?_
  refine wP ?_
  refine qE ?_
  refine qE ?_
  refine qB rfl ?_
  refine qA (qC (v := .pointer (some ⟨b, 0, none⟩)) rfl) ?_
  refine qA (qC (v := .int .i64 _) rfl) ?_
  refine op_fnMM [] [_] [_, _, _, _, _, _, _, _, _, _] (vs := [.pointer _, .int .i64 _]) rfl rfl rfl ((Upto_ok b qx joints (by omega) g4)) ?_
  rintro _ k1 _ F1 ⟨y1, i1, rfl, rfl, i11, i12⟩
  refine qH [_, _, _, _, _, _, _, _, _, _, _] rfl ?_
  refine qA (qD (v := .int .i64 _) rfl) ?_
  refine qS ?_
  refine xp_loopL [15, 16, 17, 18, 19, 20, 21, 22, 23, 24, 25, 69, 70, 71, 72, 73, 74, 75, 76, 77, 78, 79, 80, 81, 82, 83, 84, 85, 86, 87, 88, 89, 90, 91, 92, 93, 94, 95, 96, 97, 98, 99, 100, 101, 102, 103, 104, 105, 106, 107, 108, 109, 110, 111, 112, 113, 114, 115, 116, 117, 118, 119, 120, 121, 122, 123, 124, 125, 126, 127, 128, 129, 130, 131, 132, 133, 134, 135, 136, 137, 138, 139, 140, 141, 142, 143, 144, 145, 146, 147, 148, 149, 150, 151, 152, 153, 154, 155, 156, 157, 158, 159, 160, 161, 162, 163, 164, 165, 166, 167, 168, 169, 170, 171, 172] 11 (α := Int × Nat × List Joint × List Int × Acc × Acc) (fun ⟨i, y, js, fs, a5, a6⟩ => [(15, .int .i64 i)]) (fun ⟨i, y, js, fs, a5, a6⟩ L => ((((L.set 0 (some (b, .cells #[.int .u64 (y : Int)] 67 (0, 0)))).set 3 (some (b10, .cells #[.slice A3 hs.length c3, .slice A4 ds.length c4, .slice a5.A a5.n a5.c, .slice none 0 0] 26 (0, 0)))).set 4 (some (b11, .cells #[.slice A1 wt.length c1, .slice A2 dt.length c2, .slice a6.A a6.n a6.c] 31 (0, 0)))).set 9 (a5.p)).set 10 (a6.p)) (fun ⟨i, y, js, fs, a5, a6⟩ h_i => (0 ≤ i ∧ i + js.length ≤ joints) ∧ JointsT wt dt js fs ∧ AccR 60 9 (js.flatMap jointC) a5 ∧ AccR 3 1 (fs.flatMap intC) a6) (fun ⟨i, y, js, fs, a5, a6⟩ => i.toNat) ((i1, y1, [], [], acc0, acc0)) ⟨rfl, trivial⟩ (rfl) (⟨⟨i11, by simp; omega⟩, JointsT.nil, accR0, accR0⟩) ?_
  rintro ⟨i, y, js, fs, a5, a6⟩ T6 h_i E_i J_i
  refine qU [_, _, _, _, _, _, _, _, _, _, _] rfl ?_
  obtain ⟨⟨m1, m2⟩, m3, r5, r6⟩ := J_i
  have fl := m3.len
  refine qE ?_
  refine qE ?_
  refine qB rfl ?_
  refine qA (qC (v := .int .i64 _) rfl) ?_
  refine qA (qK (v := .bool _) rfl) ?_
  refine qV rfl (fun ht2 => ?_) (fun ht2 => ?_)
  ·skip
   have hi2 : 0 < i := of_decide_eq_true ht2
   refine qN ?_
   refine qE ?_
   refine qS ?_
   refine qE ?_
   refine qB rfl ?_
   refine qA (qC (v := .pointer (some ⟨b, 0, none⟩)) rfl) ?_
   refine op_fnMM [] [_] [_, _, _, _, _, _, _, _, _, _] (vs := [.pointer _, .int .i64 _, .int .i64 _]) rfl rfl rfl ((Within_ok b y 1 2 (by omega) (by omega) (by omega) h_i)) ?_
   rintro _ k2 _ F2 ⟨y2, kd, rfl, rfl, kd1, kd2⟩
   refine qH [_, _, _, _, _, _, _, _, _, _, _] rfl ?_
   refine qA (zB (zc := [_, _, _, _, _, _, _, _, _]) (vs := [(0, .int .i64 _)]) (cs := [_, _, _, _, _, _, _, _, _]) rfl rfl rfl rfl rfl rfl) ?_
   refine wL (cs := [_, _, _, _, _, _, _, _, _]) rfl rfl fun b16 hb16 => ?_
   refine qH [_, _, _, _, _, _, _, _, _, _, _, _] rfl ?_
   refine qQ 11 (v := .agg #[.int .i64 _, .int .i64 _, .int .i64 _, .int .i64 _, .int .i64 _, .int .i64 _, .int .i64 _, .int .i64 _, .int .i64 _]) (vs := [_, _, _, _, _, _, _, _, _]) (c' := [_, _, _, _, _, _, _, _, _]) rfl rfl rfl rfl rfl rfl rfl rfl rfl ?_
   refine qH [_, _, _, _, _, _, _, _, _, _, _, _] rfl ?_
   refine qE ?_
   refine xp_dw [true] rfl rfl rfl ?_
   refine qG (i := 0) rfl (by decide +kernel) (qF rfl rfl rfl rfl 0 rfl) ?_
   refine wH (i := 1) rfl (by decide +kernel) ?_
   refine qO 4 (v := .slice _ _ _) rfl rfl rfl rfl ?_
   refine qG (i := 2) rfl (by decide +kernel) (qC (v := .pointer (some ⟨b, 0, none⟩)) rfl) ?_
   refine qG (i := 4) rfl (by decide +kernel) (qC (v := .pointer (some ⟨b, 0, none⟩)) rfl) ?_
   refine wZ (i := 3) rfl (by decide +kernel) ?_
   refine op_fnMM [] [_] [_, _, _, _, _, _, _, _, _, _, _] (vs := [.pointer _, .int .i64 _, .int .i64 _]) rfl rfl rfl ((Within_ok b y2 25 38 (by omega) (by omega) (by omega) k2)) ?_
   rintro _ k3 _ F3 ⟨y3, hi3, rfl, rfl, hi31, hi32⟩
   refine ⟨zE F3 _, ?_⟩
   refine wK [_, _, _, _, _, _, _, _, _, _, _, _] rfl ?_
   refine wZ (i := 5) rfl (by decide +kernel) ?_
   refine op_fnMM [] [_] [_, _, _, _, _, _, _, _, _, _, _] (vs := [.pointer _, .int .i64 _, .int .i64 _]) rfl rfl rfl ((Within_ok b y3 (-5) 8 (by omega) (by omega) (by omega) k3)) ?_
   rintro _ k4 _ F4 ⟨y4, lo4, rfl, rfl, lo41, lo42⟩
   refine ⟨zE F4 _, ?_⟩
   refine wK [_, _, _, _, _, _, _, _, _, _, _, _] rfl ?_
   refine qG (i := 6) rfl (by decide +kernel) (qD (v := .slice _ _ _) rfl) ?_
   refine qG (i := 7) rfl (by decide +kernel) (qD (v := .int .i64 _) rfl) ?_
   refine qG (i := 8) rfl (by decide +kernel) (qD (v := .int .i64 _) rfl) ?_
   refine zC rfl ?_
   refine xp_cutB [17, 18, 19, 82, 83, 84, 85, 86, 87, 88, 89, 90] 12 (α := CutJ) (fun z => [(17, .slice z.A z.l.length z.c), (18, .int .i64 z.hi), (19, .int .i64 z.lo)]) (fun z L => L.set 0 (some (b, .cells #[.int .u64 (z.x : Int)] 67 (0, 0)))) (fun z h_z => Row h_z 1 intC z.A z.l ∧ ((kd = 1 ∧ z.l = wt ∧ 25 ≤ z.hi ∧ z.hi ≤ 38 ∧ -5 ≤ z.lo ∧ z.lo ≤ 8) ∨ (kd = 2 ∧ z.l = dt ∧ 60 ≤ z.hi ∧ z.hi ≤ 72 ∧ 28 ≤ z.lo ∧ z.lo ≤ 42))) ?_ ?_
   ·skip
    refine qE ?_
    refine qB rfl ?_
    refine qA (qF rfl rfl rfl rfl 0 rfl) ?_
    refine qO 11 (v := .int .i64 _) rfl rfl rfl rfl ?_
    refine qA (qK (v := .bool _) rfl) ?_
    refine qV rfl (fun hkd => ?_) (fun hkd => ?_)
    ·skip
     have hkd' : kd = 2 := by simpa using hkd
     refine xp_dw [true] rfl rfl rfl ?_
     refine qG (i := 0) rfl (by decide +kernel) (qF rfl rfl rfl rfl 1 rfl) ?_
     refine wH (i := 1) rfl (by decide +kernel) ?_
     refine qO 4 (v := .slice _ _ _) rfl rfl rfl rfl ?_
     refine qG (i := 2) rfl (by decide +kernel) (qC (v := .pointer (some ⟨b, 0, none⟩)) rfl) ?_
     refine qG (i := 4) rfl (by decide +kernel) (qC (v := .pointer (some ⟨b, 0, none⟩)) rfl) ?_
     refine wZ (i := 3) rfl (by decide +kernel) ?_
     refine op_fnMM [] [_] [_, _, _, _, _, _, _, _, _, _, _] (vs := [.pointer _, .int .i64 _, .int .i64 _]) rfl rfl rfl ((Within_ok b y4 60 72 (by omega) (by omega) (by omega) k4)) ?_
     rintro _ k5 _ F5 ⟨y5, hi5, rfl, rfl, hi51, hi52⟩
     refine ⟨zE F5 _, ?_⟩
     refine wK [_, _, _, _, _, _, _, _, _, _, _, _] rfl ?_
     refine wZ (i := 5) rfl (by decide +kernel) ?_
     refine op_fnMM [] [_] [_, _, _, _, _, _, _, _, _, _, _] (vs := [.pointer _, .int .i64 _, .int .i64 _]) rfl rfl rfl ((Within_ok b y5 28 42 (by omega) (by omega) (by omega) k5)) ?_
     rintro _ k6 _ F6 ⟨y6, lo6, rfl, rfl, lo61, lo62⟩
     refine ⟨zE F6 _, ?_⟩
     refine wK [_, _, _, _, _, _, _, _, _, _, _, _] rfl ?_
     refine qG (i := 6) rfl (by decide +kernel) (qD (v := .slice _ _ _) rfl) ?_
     refine qG (i := 7) rfl (by decide +kernel) (qD (v := .int .i64 _) rfl) ?_
     refine qG (i := 8) rfl (by decide +kernel) (qD (v := .int .i64 _) rfl) ?_
     refine zC rfl ?_
     refine ⟨⟨y6, hi5, lo6, A2, c2, dt⟩, ⟨rfl, rfl, rfl, trivial⟩, rfl, rfl, (zF F5 F6), fun h3 E3 => ⟨(R2.ext (zF (zF (zF (zF (zF (zF F1 E_i) F2) F3) F4) F5) F6)).ext E3, .inr ⟨hkd', rfl, hi51, hi52, lo61, lo62⟩⟩, ?_⟩
     repeat (first | exact wX _ _ | exact qY _ _ _ | refine wE (by decide) ?_ | refine qW rfl ?_ | refine wG rfl ?_)
    ·skip
     have hkd0 : ¬ kd = 2 := by simpa using hkd
     have hkd' : kd = 1 := by omega
     refine qN ?_
     refine ⟨⟨y4, hi3, lo4, A1, c1, wt⟩, ⟨rfl, rfl, rfl, trivial⟩, rfl, rfl, (Ext.refl _), fun h3 E3 => ⟨(R1.ext (zF (zF (zF (zF F1 E_i) F2) F3) F4)).ext E3, .inl ⟨hkd', rfl, hi31, hi32, lo41, lo42⟩⟩, ?_⟩
     repeat (first | exact wX _ _ | exact qY _ _ _ | refine wE (by decide) ?_ | refine qW rfl ?_ | refine wG rfl ?_)
   ·rintro z T7 h_z E_z J_z
    refine qU [_, _, _, _, _, _, _, _, _, _, _, _] rfl ?_
    obtain ⟨zx, hi, lo, WA', wc, l⟩ := z
    dsimp only at *
    obtain ⟨RW, hcase⟩ := J_z
    have hll : l.length = wt.length := by
     rcases hcase with h | h
     ·rw [h.2.1]
     ·rw [h.2.1, j4]
    have hhi : 25 ≤ hi ∧ hi ≤ 72 := by omega
    have hlo : -5 ≤ lo ∧ lo ≤ 42 := by omega
    refine qE ?_
    refine qB rfl ?_
    refine qA (qC (v := .pointer (some ⟨b, 0, none⟩)) rfl) ?_
    refine op_fnMM [] [_] [_, _, _, _, _, _, _, _, _, _, _] (vs := [.pointer _, .int .i64 _, .int .i64 _]) rfl rfl rfl ((Within_ok b zx 1 3 (by omega) (by omega) (by omega) h_z)) ?_
    rintro _ k7 _ F7 ⟨y7, many, rfl, rfl, many1, many2⟩
    refine qH [_, _, _, _, _, _, _, _, _, _, _, _] rfl ?_
    refine qA (qC (v := .pointer (some ⟨b, 0, none⟩)) rfl) ?_
    refine qA (qC (v := .pointer (some ⟨b, 0, none⟩)) rfl) ?_
    refine op_fnMM [] [_] [_, _, _, _, _, _, _, _, _, _, _] (vs := [.pointer _, .int .i64 _]) rfl rfl rfl ((Upto_ok b y7 9 (by omega) k7)) ?_
    rintro _ k8 _ F8 ⟨y8, u8, rfl, rfl, u81, u82⟩
    refine qH [_, _, _, _, _, _, _, _, _, _, _, _] rfl ?_
    refine wJ (zc := [_]) (vs := [(0, .int .i64 _), (1, .int .i64 _)]) (cs := [_, _]) rfl rfl rfl rfl rfl rfl rfl fun b96 hb96 => ?_
    refine qH [_, _, _, _, _, _, _, _, _, _, _, _, _] rfl ?_
    refine wp_pub 12 rfl rfl ?_
    intro k9 F9 p9
    refine qH [_, _, _, _, _, _, _, _, _, _, _, _, _] rfl ?_
    refine op_fnMM [] [_] [_, _, _, _, _, _, _, _, _, _, _, _] (vs := [.pointer _, .slice _ _ _]) rfl rfl rfl ((Of_ok b y8 [u8, 9] (by simp) (by simp) _ _ k9 (row_of_block (enc := intC) (m := 1) (l := [u8, 9]) (fun _ _ => rfl) p9))) ?_
    rintro _ k10 _ F10 ⟨y10, life, rfl, rfl, lifem⟩
    refine qH [_, _, _, _, _, _, _, _, _, _, _, _, _] rfl ?_
    have hlife : 0 ≤ life ∧ life ≤ 9 := by simp at lifem; omega
    refine qA (qD (v := .int .i64 _) rfl) ?_
    refine qA (qD (v := .int .i64 _) rfl) ?_
    refine qE ?_
    refine qB rfl ?_
    refine qA (qC (v := .pointer (some ⟨b, 0, none⟩)) rfl) ?_
    refine qA (qC (v := .int .i64 _) rfl) ?_
    refine op_fnMM [] [_] [_, _, _, _, _, _, _, _, _, _, _, _] (vs := [.pointer _, .int .i64 _, .int .i64 _, .int .i64 _, .int .i64 _]) rfl rfl rfl ((Near_ok b y10 hi (-50) 100 1 (by omega) (by omega) k10)) ?_
    rintro _ k11 _ F11 ⟨y11, u11, w11, rfl, rfl, u111, u112, w111, w112⟩
    refine qH [_, _, _, _, _, _, _, _, _, _, _, _, _] rfl ?_
    refine qA (qC (v := .pointer (some ⟨b, 0, none⟩)) rfl) ?_
    refine qA (qC (v := .int .i64 _) rfl) ?_
    refine op_fnMM [] [_] [_, _, _, _, _, _, _, _, _, _, _, _] (vs := [.pointer _, .int .i64 _, .int .i64 _, .int .i64 _, .int .i64 _]) rfl rfl rfl ((Near_ok b y11 lo (-50) 100 1 (by omega) (by omega) k11)) ?_
    rintro _ k12 _ F12 ⟨y12, u12, w12, rfl, rfl, u121, u122, w121, w122⟩
    refine qH [_, _, _, _, _, _, _, _, _, _, _, _, _] rfl ?_
    refine qA (qF rfl rfl rfl rfl 1 rfl) ?_
    refine qQ 11 (v := .agg #[.int .i64 _, .int .i64 _]) (vs := [_, _]) (c' := [_, _, _, _, _, _, _, _, _]) rfl rfl rfl rfl rfl rfl rfl rfl rfl ?_
    refine qH [_, _, _, _, _, _, _, _, _, _, _, _, _] rfl ?_
    refine qA (qF rfl rfl rfl rfl 3 rfl) ?_
    refine qQ 11 (v := .agg #[.int .i64 _, .int .i64 _]) (vs := [_, _]) (c' := [_, _, _, _, _, _, _, _, _]) rfl rfl rfl rfl rfl rfl rfl rfl rfl ?_
    refine qH [_, _, _, _, _, _, _, _, _, _, _, _, _] rfl ?_
    refine qE ?_
    refine qB rfl ?_
    refine qA (qC (v := .pointer (some ⟨b, 0, none⟩)) rfl) ?_
    refine qA (qC (v := .int .i64 _) rfl) ?_
    refine op_fnMM [] [_] [_, _, _, _, _, _, _, _, _, _, _, _] (vs := [.pointer _, .int .i64 _, .int .i64 _, .int .i64 _, .int .i64 _]) rfl rfl rfl ((Near_ok b y12 many 1 6 1 (by omega) (by omega) k12)) ?_
    rintro _ k13 _ F13 ⟨y13, u13, w13, rfl, rfl, u131, u132, w131, w132⟩
    refine qH [_, _, _, _, _, _, _, _, _, _, _, _, _] rfl ?_
    refine qA (qC (v := .pointer (some ⟨b, 0, none⟩)) rfl) ?_
    refine qA (qC (v := .int .i64 _) rfl) ?_
    refine op_fnMM [] [_] [_, _, _, _, _, _, _, _, _, _, _, _] (vs := [.pointer _, .int .i64 _, .int .i64 _, .int .i64 _, .int .i64 _]) rfl rfl rfl ((Near_ok b y13 life 0 9 2 (by omega) (by omega) k13)) ?_
    rintro _ k14 _ F14 ⟨y14, u14, w14, rfl, rfl, u141, u142, w141, w142⟩
    refine qH [_, _, _, _, _, _, _, _, _, _, _, _, _] rfl ?_
    refine qA (qF rfl rfl rfl rfl 5 rfl) ?_
    refine qQ 11 (v := .agg #[.int .i64 _, .int .i64 _]) (vs := [_, _]) (c' := [_, _, _, _, _, _, _, _, _]) rfl rfl rfl rfl rfl rfl rfl rfl rfl ?_
    refine qH [_, _, _, _, _, _, _, _, _, _, _, _, _] rfl ?_
    refine qA (qF rfl rfl rfl rfl 7 rfl) ?_
    refine qQ 11 (v := .agg #[.int .i64 _, .int .i64 _]) (vs := [_, _]) (c' := [_, _, _, _, _, _, _, _, _]) rfl rfl rfl rfl rfl rfl rfl rfl rfl ?_
    refine qH [_, _, _, _, _, _, _, _, _, _, _, _, _] rfl ?_
    refine qE ?_
    refine qB rfl ?_
    refine qA (qF rfl rfl rfl rfl 2 rfl) ?_
    refine qO 3 (v := .slice _ _ _) rfl rfl rfl rfl ?_
    refine wA 11 (vs := [.int .i64 _, .int .i64 _, .int .i64 _, .int .i64 _, .int .i64 _, .int .i64 _, .int .i64 _, .int .i64 _, .int .i64 _]) rfl rfl rfl rfl rfl ?_
    refine wJ (zc := [_, _, _, _, _, _, _, _, _]) (vs := [(0, .agg #[.int .i64 _, .int .i64 _, .int .i64 _, .int .i64 _, .int .i64 _, .int .i64 _, .int .i64 _, .int .i64 _, .int .i64 _])]) (cs := [_, _, _, _, _, _, _, _, _]) rfl rfl rfl rfl rfl rfl rfl fun b117 hb117 => ?_
    refine qH [_, _, _, _, _, _, _, _, _, _, _, _, _, _] rfl ?_
    refine op_appendR 9 r5 rfl rfl rfl (fun V => rdP V (i := 13) rfl) rfl rfl rfl rfl rfl rfl rfl rfl rfl (by omega) rfl (by rw [wN (m := 9) (fun _ _ => rfl)]; simp; omega) fun a5' h8a E8a ra5 => ?_
    refine qH [_, _, _, _, _, _, _, _, _, _, _, _, _, _] rfl ?_
    refine qA (qF rfl rfl rfl rfl 2 rfl) ?_
    refine qQ 3 (v := .slice _ _ _) (vs := [_]) (c' := [_, _, _, _]) rfl rfl rfl rfl rfl rfl rfl rfl rfl ?_
    refine qH [_, _, _, _, _, _, _, _, _, _, _, _, _, _] rfl ?_
    refine qE ?_
    refine qB rfl ?_
    refine qA (qC (v := .slice _ _ _) rfl) ?_
    refine qA (wQ rfl rfl) ?_
    refine qA (qD (v := .int .i64 _) rfl) ?_
    refine qA (qD (v := .int .i64 _) rfl) ?_
    refine qE ?_
    refine qE ?_
    refine qB rfl ?_
    refine qA (qC (v := .slice _ _ _) rfl) ?_
    refine qA (wQ rfl rfl) ?_
    refine qA (qR rfl (by omega)) ?_
    refine qA (qD (v := .int .i64 _) rfl) ?_
    refine qS ?_
    refine xp_loopB [22, 23, 24, 25, 125, 126, 127, 128, 129, 130, 131, 132, 133, 134, 135, 136, 137, 138, 139, 140, 141, 142, 143, 144, 145, 146, 147, 148, 149, 150, 151, 152, 153, 154, 155, 156, 157, 158, 159, 160, 161, 162, 163, 164, 165, 166] 14 (α := Nat) (fun kk => [(24, .int .i64 ((l.length : Int) - 1 - kk)), (22, .int .i64 (failP l hi lo many life kk : Nat))]) (fun kk => _) (fun kk h_kk => kk ≤ l.length) (fun kk => l.length - kk) (0) ⟨intE (by omega), rfl, trivial⟩ (rfl) (Nat.zero_le _) ?_
    rintro kk T9 h_kk E_kk J_kk
    refine qU [_, _, _, _, _, _, _, _, _, _, _, _, _, _] rfl ?_
    refine qE ?_
    refine qE ?_
    refine qB rfl ?_
    refine qA (qC (v := .int .i64 _) rfl) ?_
    refine qA (qK (v := .bool _) rfl) ?_
    refine qV rfl (fun hw3 => ?_) (fun hw3 => ?_)
    ·skip
     have hkl : kk < l.length := by have := of_decide_eq_true hw3; omega
     have hwn : l.length - (kk + 1) < l.length := by omega
     have hsub : (l.length : Int) - 1 - kk = ((l.length - (kk + 1) : Nat) : Int) := by omega
     rw [hsub]
     have hgd : l.getD (l.length - (kk + 1)) 0 = l[l.length - (kk + 1)] := by rw [List.getD_eq_getElem?_getD, List.getElem?_eq_getElem hwn]; rfl
     refine qN ?_
     refine qE ?_
     refine qS ?_
     refine qE ?_
     refine qB rfl ?_
     refine qA (qD (v := .int .i64 _) rfl) ?_
     refine qE ?_
     refine qE ?_
     refine qB rfl ?_
     refine qA (qD (v := .int .i64 _) rfl) ?_
     refine qS ?_
     refine xp_loopB [23, 25, 129, 130, 131, 132, 133, 134, 135, 136, 137, 138, 139, 140, 141] 14 (α := Nat) (fun v => [(25, .int .i64 v), (23, .int .i64 (coldN l lo v : Nat))]) (fun v => _) (fun v h_v => v ≤ l.length - (kk + 1) + 1) (fun v => l.length - (kk + 1) + 1 - v) (0) ⟨rfl, intE (by simp [coldN]), trivial⟩ (rfl) (Nat.zero_le _) ?_
     rintro v T10 h_v E_v J_v
     refine qU [_, _, _, _, _, _, _, _, _, _, _, _, _, _] rfl ?_
     have hcn := coldN_le l lo v
     refine qE ?_
     refine qE ?_
     refine qB rfl ?_
     refine qA (qC (v := .int .i64 _) rfl) ?_
     refine qA (qC (v := .int .i64 _) rfl) ?_
     refine qA (qK (v := .bool _) rfl) ?_
     refine qV rfl (fun hv3 => ?_) (fun hv3 => ?_)
     ·skip
      have hvl : v < l.length := by have := of_decide_eq_true hv3; omega
      have hvw : v ≤ l.length - (kk + 1) := by have := of_decide_eq_true hv3; omega
      have hcs := coldN_succ (x := l) (lo := lo) hvl
      obtain ⟨gv, offv, hAv, hcv⟩ := (RW.ext (zF (zF (zF (zF (zF (zF (zF (zF (zF (zF F7 F8) F9) F10) F11) F12) F13) F14) E8a) E_kk) E_v)).at (by omega) hvl
      refine qN ?_
      refine qE ?_
      refine qS ?_
      refine qE ?_
      refine qB rfl ?_
      refine qA (qC (v := .slice _ _ _) rfl) ?_
      refine qA (qC (v := .int .i64 _) rfl) ?_
      refine qA (wT rfl hAv rfl rfl rfl (by omega) (by omega)) ?_
      refine wY (v := .int .i64 _) rfl rfl ((hcv) 0 _ rfl) ?_
      refine qA (qC (v := .int .i64 _) rfl) ?_
      refine qA (qK (v := .bool _) rfl) ?_
      refine qV rfl (fun hcold => ?_) (fun hcold => ?_)
      ·skip
       have hc1 : l[v] ≤ lo := of_decide_eq_true hcold
       refine qB rfl ?_
       refine qA (qC (v := .int .i64 _) rfl) ?_
       refine qA (qR rfl (by omega)) ?_
       refine qA (qD (v := .int .i64 _) rfl) ?_
       refine qB rfl ?_
       refine qA (qC (v := .int .i64 _) rfl) ?_
       refine qA (qR rfl (by omega)) ?_
       refine qA (qD (v := .int .i64 _) rfl) ?_
       refine ⟨v + 1, ⟨rfl, intE (by rw [hcs, if_pos hc1]; simp), trivial⟩, rfl, rfl, E_v, fun h3 E3 => by omega, by first | omega | (dsimp only; omega), ?_⟩
       repeat (first | exact qY _ _ _ | refine wE (by decide) ?_ | refine qW rfl ?_ | refine wG rfl ?_)
      ·skip
       have hc1 : ¬ l[v] ≤ lo := of_decide_eq_false hcold
       refine qN ?_
       refine qB rfl ?_
       refine qA (qC (v := .int .i64 _) rfl) ?_
       refine qA (qR rfl (by omega)) ?_
       refine qA (qD (v := .int .i64 _) rfl) ?_
       refine ⟨v + 1, ⟨rfl, intE (by rw [hcs, if_neg hc1]; simp), trivial⟩, rfl, rfl, E_v, fun h3 E3 => by omega, by first | omega | (dsimp only; omega), ?_⟩
       repeat (first | exact qY _ _ _ | refine wE (by decide) ?_ | refine qW rfl ?_ | refine wG rfl ?_)
     ·skip
      have hve : v = l.length - (kk + 1) + 1 := by have := of_decide_eq_false hv3; omega
      subst hve
      obtain ⟨gw, offw, hAw, hcw⟩ := (RW.ext (zF (zF (zF (zF (zF (zF (zF (zF (zF (zF F7 F8) F9) F10) F11) F12) F13) F14) E8a) E_kk) E_v)).at (by omega) hwn
      have hfp : failP l hi lo many life (kk + 1) = if failW l hi lo many life (l.length - (kk + 1)) then l.length - (kk + 1) else failP l hi lo many life kk := rfl
      refine wP ?_
      refine qE ?_
      refine qB rfl ?_
      refine qA (qC (v := .slice _ _ _) rfl) ?_
      refine qA (qC (v := .int .i64 _) rfl) ?_
      refine qA (wT rfl hAw rfl rfl rfl (by omega) (by omega)) ?_
      refine wY (v := .int .i64 _) rfl rfl ((hcw) 0 _ rfl) ?_
      refine qA (qC (v := .int .i64 _) rfl) ?_
      refine qA (qK (v := .bool _) rfl) ?_
      refine qA (qC (v := .bool _) rfl) ?_
      rcases Bool.eq_false_or_eq_true (decide (l[l.length - (kk + 1)] ≥ hi)) with c1 | c1
      ·skip
       have hfw : failW l hi lo many life (l.length - (kk + 1)) = true := by unfold failW; rw [hgd, c1]; rfl
       refine qM rfl c1 ?_
       refine qM rfl c1 ?_
       refine qM rfl c1 ?_
       refine qA (wO rfl c1 (v := .bool _) rfl) ?_
       refine qA (qC (v := .bool _) rfl) ?_
       refine qM rfl rfl ?_
       refine qM rfl rfl ?_
       refine qM rfl rfl ?_
       refine qM rfl rfl ?_
       refine qM rfl rfl ?_
       refine qM rfl rfl ?_
       refine qM rfl rfl ?_
       refine guard_un rfl ?_
       refine guard_un rfl ?_
       refine guard_un rfl ?_
       refine qM rfl rfl ?_
       refine qA (wO rfl rfl (v := .bool _) rfl) ?_
       refine wS rfl (rfl) ?_
       refine qB rfl ?_
       refine qA (qC (v := .int .i64 _) rfl) ?_
       refine qA (qD (v := .int .i64 _) rfl) ?_
       refine qB rfl ?_
       refine qA (qC (v := .int .i64 _) rfl) ?_
       refine qA (qR rfl (by omega)) ?_
       refine qA (qD (v := .int .i64 _) rfl) ?_
       refine ⟨kk + 1, ⟨intE (by omega), intE (by rw [hfp, if_pos hfw]), trivial⟩, rfl, rfl, (zF E_kk E_v), fun h3 E3 => by omega, by first | omega | (dsimp only; omega), ?_⟩
       repeat (first | exact qY _ _ _ | refine wE (by decide) ?_ | refine qW rfl ?_ | refine wG rfl ?_)
      ·skip
       refine qJ rfl c1 ?_
       refine qA (qC (v := .int .i64 _) rfl) ?_
       refine qJ rfl c1 ?_
       refine qA (qC (v := .int .i64 _) rfl) ?_
       refine qJ rfl c1 ?_
       refine qA (qK (v := .bool _) rfl) ?_
       refine qA (wV rfl c1 (v := .bool _) rfl) ?_
       refine qA (qC (v := .bool _) rfl) ?_
       rcases Bool.eq_false_or_eq_true (decide (((l.length - (kk + 1) : Nat) : Int) = life)) with c2 | c2
       ·skip
        have hfw : failW l hi lo many life (l.length - (kk + 1)) = true := by unfold failW; rw [hgd, c1, c2]; rfl
        refine qM rfl c2 ?_
        refine qM rfl c2 ?_
        refine qM rfl c2 ?_
        refine qM rfl c2 ?_
        refine qM rfl c2 ?_
        refine qM rfl c2 ?_
        refine qM rfl c2 ?_
        refine guard_un rfl ?_
        refine guard_un rfl ?_
        refine guard_un rfl ?_
        refine qM rfl c2 ?_
        refine qA (wO rfl c2 (v := .bool _) rfl) ?_
        refine wS rfl (rfl) ?_
        refine qB rfl ?_
        refine qA (qC (v := .int .i64 _) rfl) ?_
        refine qA (qD (v := .int .i64 _) rfl) ?_
        refine qB rfl ?_
        refine qA (qC (v := .int .i64 _) rfl) ?_
        refine qA (qR rfl (by omega)) ?_
        refine qA (qD (v := .int .i64 _) rfl) ?_
        refine ⟨kk + 1, ⟨intE (by omega), intE (by rw [hfp, if_pos hfw]), trivial⟩, rfl, rfl, (zF E_kk E_v), fun h3 E3 => by omega, by first | omega | (dsimp only; omega), ?_⟩
        repeat (first | exact qY _ _ _ | refine wE (by decide) ?_ | refine qW rfl ?_ | refine wG rfl ?_)
       ·skip
        refine qJ rfl c2 ?_
        refine qA (qC (v := .slice _ _ _) rfl) ?_
        refine qJ rfl c2 ?_
        refine qA (qC (v := .int .i64 _) rfl) ?_
        refine qJ rfl c2 ?_
        refine qA (wT rfl hAw rfl rfl rfl (by omega) (by omega)) ?_
        refine qJ rfl c2 ?_
        refine wY (v := .int .i64 _) rfl rfl ((hcw) 0 _ rfl) ?_
        refine qJ rfl c2 ?_
        refine qA (qC (v := .int .i64 _) rfl) ?_
        refine qJ rfl c2 ?_
        refine qA (qK (v := .bool _) rfl) ?_
        refine qJ rfl c2 ?_
        refine qA (qC (v := .bool _) rfl) ?_
        rcases Bool.eq_false_or_eq_true (decide (l[l.length - (kk + 1)] ≤ lo)) with c3 | c3
        ·skip
         refine qJ rfl c3 ?_
         refine qA (qC (v := .int .i64 _) rfl) ?_
         refine qJ rfl c3 ?_
         refine qA (qC (v := .int .i64 _) rfl) ?_
         refine qJ rfl c3 ?_
         refine qA (qK (v := .bool _) rfl) ?_
         refine qJ rfl c2 ?_
         refine qA (wO rfl c3 (v := .bool _) rfl) ?_
         refine qA (wV rfl c2 (v := .bool _) rfl) ?_
         refine qV rfl (fun c4 => ?_) (fun c4 => ?_)
         ·skip
          have hfw : failW l hi lo many life (l.length - (kk + 1)) = true := by unfold failW; rw [hgd, c1, c2, c3, show decide ((coldN l lo (l.length - (kk + 1) + 1) : Int) = many) = true from by simpa using c4]; rfl
          refine qB rfl ?_
          refine qA (qC (v := .int .i64 _) rfl) ?_
          refine qA (qD (v := .int .i64 _) rfl) ?_
          refine qB rfl ?_
          refine qA (qC (v := .int .i64 _) rfl) ?_
          refine qA (qR rfl (by omega)) ?_
          refine qA (qD (v := .int .i64 _) rfl) ?_
          refine ⟨kk + 1, ⟨intE (by omega), intE (by rw [hfp, if_pos hfw]), trivial⟩, rfl, rfl, (zF E_kk E_v), fun h3 E3 => by omega, by first | omega | (dsimp only; omega), ?_⟩
          repeat (first | exact qY _ _ _ | refine wE (by decide) ?_ | refine qW rfl ?_ | refine wG rfl ?_)
         ·skip
          have hfw : ¬ failW l hi lo many life (l.length - (kk + 1)) = true := by unfold failW; rw [hgd, c1, c2, c3, show decide ((coldN l lo (l.length - (kk + 1) + 1) : Int) = many) = false from by simpa using c4]; simp
          refine qN ?_
          refine qB rfl ?_
          refine qA (qC (v := .int .i64 _) rfl) ?_
          refine qA (qR rfl (by omega)) ?_
          refine qA (qD (v := .int .i64 _) rfl) ?_
          refine ⟨kk + 1, ⟨intE (by omega), intE (by rw [hfp, if_neg hfw]), trivial⟩, rfl, rfl, (zF E_kk E_v), fun h3 E3 => by omega, by first | omega | (dsimp only; omega), ?_⟩
          repeat (first | exact qY _ _ _ | refine wE (by decide) ?_ | refine qW rfl ?_ | refine wG rfl ?_)
        ·skip
         have hfw : ¬ failW l hi lo many life (l.length - (kk + 1)) = true := by unfold failW; rw [hgd, c1, c2, c3]; simp
         refine qM rfl c3 ?_
         refine qM rfl c3 ?_
         refine qM rfl c3 ?_
         refine qJ rfl c2 ?_
         refine qA (wV rfl c3 (v := .bool _) rfl) ?_
         refine qA (wV rfl c2 (v := .bool _) rfl) ?_
         refine wM rfl (rfl) ?_
         refine qN ?_
         refine qB rfl ?_
         refine qA (qC (v := .int .i64 _) rfl) ?_
         refine qA (qR rfl (by omega)) ?_
         refine qA (qD (v := .int .i64 _) rfl) ?_
         refine ⟨kk + 1, ⟨intE (by omega), intE (by rw [hfp, if_neg hfw]), trivial⟩, rfl, rfl, (zF E_kk E_v), fun h3 E3 => by omega, by first | omega | (dsimp only; omega), ?_⟩
         repeat (first | exact qY _ _ _ | refine wE (by decide) ?_ | refine qW rfl ?_ | refine wG rfl ?_)
    ·skip
     have hkk : kk = l.length := by have := of_decide_eq_false hw3; omega
     subst hkk
     refine wP ?_
     refine qB rfl ?_
     refine qA (qF rfl rfl rfl rfl 2 rfl) ?_
     refine qO 4 (v := .slice _ _ _) rfl rfl rfl rfl ?_
     refine qA (qC (v := .int .i64 _) rfl) ?_
     refine wJ (zc := [_]) (vs := [(0, .int .i64 _)]) (cs := [_]) rfl rfl rfl rfl rfl rfl rfl fun b170 hb170 => ?_
     refine qH [_, _, _, _, _, _, _, _, _, _, _, _, _, _, _] rfl ?_
     refine op_appendR 10 r6 rfl rfl rfl (fun V => rdP V (i := 14) rfl) rfl rfl rfl rfl rfl rfl rfl rfl rfl (by omega) rfl (by rw [wN (m := 1) (fun _ _ => rfl), fl]; simp; omega) fun a6' h11a E11a ra6 => ?_
     refine qH [_, _, _, _, _, _, _, _, _, _, _, _, _, _, _] rfl ?_
     have hJT : JointT wt dt ⟨kd, ⟨max (-50) (hi - u11), min 100 (hi + w11)⟩, ⟨max (-50) (lo - u12), min 100 (lo + w12)⟩, ⟨max 1 (many - u13), min 6 (many + w13)⟩, ⟨max 0 (life - u14), min 9 (life + w14)⟩⟩ (failP l hi lo many life l.length : Nat) hi lo many life := by
      refine ⟨?_, ⟨many1, many2⟩, hlife, ⟨u11, w11, u111, u112, w111, w112, rfl⟩, ⟨u12, w12, u121, u122, w121, w122, rfl⟩, ⟨u13, w13, u131, u132, w131, w132, rfl⟩, ⟨u14, w14, u141, u142, w141, w142, rfl⟩, ?_⟩
      ·rcases hcase with c | c
       ·exact .inl ⟨c.1, c.2.2⟩
       ·exact .inr ⟨c.1, c.2.2⟩
      ·rcases hcase with c | c
       ·rw [c.1, if_pos rfl, ← c.2.1]; rfl
       ·rw [c.1, if_neg (by show ¬ (2 : Int) = 1; decide), ← c.2.1]; rfl
     refine qA (qF rfl rfl rfl rfl 2 rfl) ?_
     refine qQ 4 (v := .slice _ _ _) (vs := [_]) (c' := [_, _, _]) rfl rfl rfl rfl rfl rfl rfl rfl rfl ?_
     refine qH [_, _, _, _, _, _, _, _, _, _, _, _, _, _, _] rfl ?_
     refine qB rfl ?_
     refine qA (qC (v := .int .i64 _) rfl) ?_
     refine qA (qR rfl (by omega)) ?_
     refine qA (qD (v := .int .i64 _) rfl) ?_
     refine ⟨(i - 1, y14, js ++ [⟨kd, ⟨max (-50) (hi - u11), min 100 (hi + w11)⟩, ⟨max (-50) (lo - u12), min 100 (lo + w12)⟩, ⟨max 1 (many - u13), min 6 (many + w13)⟩, ⟨max 0 (life - u14), min 9 (life + w14)⟩⟩], fs ++ [((failP l hi lo many life l.length : Nat) : Int)], a5', a6'), ⟨rfl, trivial⟩, rfl, rfl, (zF (zF (zF (zF (zF (zF (zF (zF (zF (zF (zF (zF (zF (zF (zF E_i F2) F3) F4) E_z) F7) F8) F9) F10) F11) F12) F13) F14) E8a) E_kk) E11a), fun h3 E3 => ⟨⟨by omega, by simp; omega⟩, m3.snoc hJT, by rw [List.flatMap_append]; exact ra5, by rw [List.flatMap_append]; exact ra6⟩, by first | omega | (dsimp only; omega), ?_⟩
     repeat (first | exact qY _ _ _ | refine wE (by decide) ?_ | refine qW rfl ?_ | refine wG rfl ?_)
  ·skip
   have hi0' : i = 0 := by have := of_decide_eq_false ht2; omega
   obtain ⟨p5, A5, n5, c5⟩ := a5
   obtain ⟨p6, A6, n6, c6⟩ := a6
   dsimp only at *
   obtain rfl : n5 = js.length := by have := AccR.len r5; rw [wN (m := 9) (fun _ _ => rfl)] at this; dsimp only at this; omega
   obtain rfl : n6 = fs.length := by have := AccR.len r6; rw [wN (m := 1) (fun _ _ => rfl)] at this; dsimp only at this; omega
   refine goes_pubO 10 rfl ?_
   intro g6 G6 P6
   refine qU [_, _, _, _, _, _, _, _, _, _, _] rfl ?_
   have R6 : Row g6 1 intC A6 fs := ⟨fun _ _ => rfl, AccR.rd r6 P6⟩
   refine goes_more ?_
   refine qU [_, _, _, _, _, _, _, _, _, _, _, _] rfl ?_
   refine wP ?_
   refine qE ?_
   refine qE ?_
   refine qB rfl ?_
   refine qA (qC (v := .pointer (some ⟨b, 0, none⟩)) rfl) ?_
   refine qA (qC (v := .int .i64 _) rfl) ?_
   refine op_fnMM [] [_] [_, _, _, _, _, _, _, _, _, _, _] (vs := [.pointer _, .int .i64 _]) rfl rfl rfl ((Upto_ok b y reports (by omega) g6)) ?_
   rintro _ k20 _ F20 ⟨y20, i20, rfl, rfl, i201, i202⟩
   refine qH [_, _, _, _, _, _, _, _, _, _, _, _] rfl ?_
   refine qA (qD (v := .int .i64 _) rfl) ?_
   refine qS ?_
   refine xp_loopL [26, 176, 177, 178, 179, 180, 181, 182, 183, 184, 185, 186, 187, 188, 189, 190, 191, 192, 193] 12 (α := Int × Nat × List Seen × Acc) (fun ⟨e, y, rs, a7⟩ => [(26, .int .i64 e)]) (fun ⟨e, y, rs, a7⟩ L => ((L.set 0 (some (b, .cells #[.int .u64 (y : Int)] 67 (0, 0)))).set 3 (some (b10, .cells #[.slice A3 hs.length c3, .slice A4 ds.length c4, .slice A5 js.length c5, .slice a7.A a7.n a7.c] 26 (0, 0)))).set 11 (a7.p)) (fun ⟨e, y, rs, a7⟩ h_e => (0 ≤ e ∧ e + rs.length ≤ reports) ∧ (∀ r ∈ rs, SeenT wt.length fs r) ∧ AccR 63 3 (rs.flatMap seenC) a7) (fun ⟨e, y, rs, a7⟩ => e.toNat) ((i20, y20, [], acc0)) ⟨rfl, trivial⟩ (rfl) (⟨⟨i201, by simp; omega⟩, fun _ h => (by cases h), accR0⟩) ?_
   rintro ⟨e, y, rs, a7⟩ T12 h_e E_e J_e
   refine qU [_, _, _, _, _, _, _, _, _, _, _, _] rfl ?_
   obtain ⟨⟨s1, s2⟩, s3, r7⟩ := J_e
   refine qE ?_
   refine qE ?_
   refine qB rfl ?_
   refine qA (qC (v := .int .i64 _) rfl) ?_
   refine qA (qK (v := .bool _) rfl) ?_
   refine qA (qC (v := .bool _) rfl) ?_
   rcases Bool.eq_false_or_eq_true (decide (e > 0)) with he | he
   ·skip
    have he' : 0 < e := of_decide_eq_true he
    refine qJ rfl he ?_
    refine qA (qF rfl rfl rfl rfl 2 rfl) ?_
    refine qJ rfl he ?_
    refine qO 3 (v := .slice _ _ _) rfl rfl rfl rfl ?_
    refine qJ rfl he ?_
    refine qA (wQ rfl rfl) ?_
    refine qJ rfl he ?_
    refine qA (qK (v := .bool _) rfl) ?_
    refine qA (wO rfl he (v := .bool _) rfl) ?_
    refine qV rfl (fun hjl => ?_) (fun hjl => ?_)
    ·skip
     have hjl' : 0 < fs.length := by have := of_decide_eq_true hjl; omega
     refine qN ?_
     refine qE ?_
     refine qS ?_
     refine xp_dw [true, false, false, false, false, false, false, false, false, false, false, true] rfl rfl rfl ?_
     refine qG (i := 0) rfl (by decide +kernel) (qF rfl rfl rfl rfl 3 rfl) ?_
     refine wH (i := 1) rfl (by decide +kernel) ?_
     refine qO 3 (v := .slice _ _ _) rfl rfl rfl rfl ?_
     refine qG (i := 2) rfl (by decide +kernel) (qC (v := .pointer (some ⟨b, 0, none⟩)) rfl) ?_
     refine wH (i := 3) rfl (by decide +kernel) ?_
     refine wA 4 (vs := [.slice _ _ _, .slice _ _ _, .slice _ _ _]) rfl rfl rfl rfl rfl ?_
     refine wZ (i := 4) rfl (by decide +kernel) ?_
     refine op_fnMM [] [_] [_, _, _, _, _, _, _, _, _, _, _] (vs := [.pointer _, .agg #[.slice _ _ _, .slice _ _ _, .slice _ _ _]]) rfl rfl rfl ((SeenOf_ok b y wt.length dt.length (by omega) (by omega) fs hjl' (by omega) A1 A2 A6 c1 c2 c6 h_e (R6.ext (zF F20 E_e)))) ?_
     rintro _ k21 _ F21 ⟨y21, sr, rfl, rfl, sr1⟩
     refine ⟨zE F21 _, ?_⟩
     refine wK [_, _, _, _, _, _, _, _, _, _, _, _] rfl ?_
     refine wZ (i := 5) rfl (by decide +kernel) ?_
     refine wJ (zc := [_, _, _]) (vs := [(0, .agg #[.int .i64 _, .int .i64 _, .bool _])]) (cs := [_, _, _]) rfl rfl rfl rfl rfl rfl rfl fun b191 hb191 => ?_
     refine ⟨ext_newM hb191 _, ?_⟩
     refine wK [_, _, _, _, _, _, _, _, _, _, _, _, _] rfl ?_
     refine wW (i := 6) rfl (by decide +kernel) (by decide +kernel) ?_
     refine op_appendR 11 r7 rfl rfl rfl (fun V => rdP V (i := 12) rfl) rfl rfl rfl rfl rfl rfl rfl rfl rfl (by omega) rfl (by rw [wN (m := 3) (fun _ _ => rfl)]; simp; omega) fun a7' h13a E13a ra7 => ?_
     refine wK [_, _, _, _, _, _, _, _, _, _, _, _, _] rfl ?_
     refine qG (i := 7) rfl (by decide +kernel) (qF rfl rfl rfl rfl 3 rfl) ?_
     refine wW (i := 8) rfl (by decide +kernel) (by decide +kernel) ?_
     refine qQ 3 (v := .slice _ _ _) (vs := [_]) (c' := [_, _, _, _]) rfl rfl rfl rfl rfl rfl rfl rfl rfl ?_
     refine wK [_, _, _, _, _, _, _, _, _, _, _, _, _] rfl ?_
     refine zC rfl ?_
     refine qB rfl ?_
     refine qA (qC (v := .int .i64 _) rfl) ?_
     refine qA (qR rfl (by omega)) ?_
     refine qA (qD (v := .int .i64 _) rfl) ?_
     refine ⟨(e - 1, y21, rs ++ [sr], a7'), ⟨rfl, trivial⟩, rfl, rfl, (zF (zF E_e F21) E13a), fun h3 E3 => ⟨⟨by omega, by simp; omega⟩, memS s3 sr1, by rw [List.flatMap_append]; exact ra7⟩, by first | omega | (dsimp only; omega), ?_⟩
     repeat (first | exact qY _ _ _ | refine wE (by decide) ?_ | refine qW rfl ?_ | refine wG rfl ?_)
    ·skip
     obtain ⟨p7, A7, n7, c7⟩ := a7
     dsimp only at *
     obtain rfl : n7 = rs.length := by have := AccR.len r7; rw [wN (m := 3) (fun _ _ => rfl)] at this; dsimp only at this; omega
     refine wP ?_
     refine qE ?_
     refine xp_dw [false, true, true] rfl rfl rfl ?_
     refine wH (i := 0) rfl (by decide +kernel) ?_
     refine wA 3 (vs := [.slice _ _ _, .slice _ _ _, .slice _ _ _, .slice _ _ _]) rfl rfl rfl rfl rfl ?_
     refine wH (i := 1) rfl (by decide +kernel) ?_
     refine wA 4 (vs := [.slice _ _ _, .slice _ _ _, .slice _ _ _]) rfl rfl rfl rfl rfl ?_
     refine wZ (i := 2) rfl (by decide +kernel) ?_
     refine qQ 1 (v := .agg #[.slice _ _ _, .slice _ _ _, .slice _ _ _, .slice _ _ _]) (vs := [_, _, _, _]) (c' := [_, _, _, _]) rfl rfl rfl rfl rfl rfl rfl rfl rfl ?_
     refine ⟨Ext.refl _, ?_⟩
     refine wK [_, _, _, _, _, _, _, _, _, _, _, _] rfl ?_
     refine wW (i := 3) rfl (by decide +kernel) (by decide +kernel) ?_
     refine qQ 2 (v := .agg #[.slice _ _ _, .slice _ _ _, .slice _ _ _]) (vs := [_, _, _]) (c' := [_, _, _]) rfl rfl rfl rfl rfl rfl rfl rfl rfl ?_
     refine wK [_, _, _, _, _, _, _, _, _, _, _, _] rfl ?_
     refine zC rfl ?_
     refine qT ?_
     refine qL (vs := [_, _]) Tryz.results7 ⟨resV_agg 1 rfl rfl rfl rfl rfl (vs := [.slice _ _ _, .slice _ _ _, .slice _ _ _, .slice _ _ _]) rfl, resV_agg 2 rfl rfl rfl rfl rfl (vs := [.slice _ _ _, .slice _ _ _, .slice _ _ _]) rfl, trivial⟩ fun V => ?_
     obtain ⟨h9, E9, e9, V9⟩ := wl_two [_, _, _, _, _, _, _, _] [_] [] V
     exact ⟨h9, _, e9, V9, zF (zF (zF (zF (zF (zF (zF (zF (zF (zF (zF E1 E_q) G1) G2) G3) G4) F1) E_i) G6) F20) E_e) E9, y, ⟨hs, ds, js, rs⟩, wt, dt, fs, _, _, ⟨p5, A5, js.length, c5⟩, ⟨p7, A7, rs.length, c7⟩, rfl, rfl, ⟨by omega, by omega, j4, j5, j6, j7, j8, by show js.length ≤ _; omega, m3, by show rs.length ≤ _; omega, s3⟩, r5, r7, ⟨A3, c3, A4, c4, rfl, (R3.ext (zF (zF (zF (zF F1 E_i) G6) F20) E_e)).ext E9, (R4.ext (zF (zF (zF (zF F1 E_i) G6) F20) E_e)).ext E9⟩, A1, c1, A2, c2, A6, c6, rfl, (R1.ext (zF (zF (zF (zF F1 E_i) G6) F20) E_e)).ext E9, (R2.ext (zF (zF (zF (zF F1 E_i) G6) F20) E_e)).ext E9, (R6.ext (zF F20 E_e)).ext E9⟩
   ·skip
    refine qM rfl he ?_
    refine qM rfl he ?_
    refine qM rfl he ?_
    refine qM rfl he ?_
    refine qA (wV rfl he (v := .bool _) rfl) ?_
    refine wM rfl (rfl) ?_
    obtain ⟨p7, A7, n7, c7⟩ := a7
    dsimp only at *
    obtain rfl : n7 = rs.length := by have := AccR.len r7; rw [wN (m := 3) (fun _ _ => rfl)] at this; dsimp only at this; omega
    refine wP ?_
    refine qE ?_
    refine xp_dw [false, true, true] rfl rfl rfl ?_
    refine wH (i := 0) rfl (by decide +kernel) ?_
    refine wA 3 (vs := [.slice _ _ _, .slice _ _ _, .slice _ _ _, .slice _ _ _]) rfl rfl rfl rfl rfl ?_
    refine wH (i := 1) rfl (by decide +kernel) ?_
    refine wA 4 (vs := [.slice _ _ _, .slice _ _ _, .slice _ _ _]) rfl rfl rfl rfl rfl ?_
    refine wZ (i := 2) rfl (by decide +kernel) ?_
    refine qQ 1 (v := .agg #[.slice _ _ _, .slice _ _ _, .slice _ _ _, .slice _ _ _]) (vs := [_, _, _, _]) (c' := [_, _, _, _]) rfl rfl rfl rfl rfl rfl rfl rfl rfl ?_
    refine ⟨Ext.refl _, ?_⟩
    refine wK [_, _, _, _, _, _, _, _, _, _, _, _] rfl ?_
    refine wW (i := 3) rfl (by decide +kernel) (by decide +kernel) ?_
    refine qQ 2 (v := .agg #[.slice _ _ _, .slice _ _ _, .slice _ _ _]) (vs := [_, _, _]) (c' := [_, _, _]) rfl rfl rfl rfl rfl rfl rfl rfl rfl ?_
    refine wK [_, _, _, _, _, _, _, _, _, _, _, _] rfl ?_
    refine zC rfl ?_
    refine qT ?_
    refine qL (vs := [_, _]) Tryz.results7 ⟨resV_agg 1 rfl rfl rfl rfl rfl (vs := [.slice _ _ _, .slice _ _ _, .slice _ _ _, .slice _ _ _]) rfl, resV_agg 2 rfl rfl rfl rfl rfl (vs := [.slice _ _ _, .slice _ _ _, .slice _ _ _]) rfl, trivial⟩ fun V => ?_
    obtain ⟨h9, E9, e9, V9⟩ := wl_two [_, _, _, _, _, _, _, _] [_] [] V
    exact ⟨h9, _, e9, V9, zF (zF (zF (zF (zF (zF (zF (zF (zF (zF (zF E1 E_q) G1) G2) G3) G4) F1) E_i) G6) F20) E_e) E9, y, ⟨hs, ds, js, rs⟩, wt, dt, fs, _, _, ⟨p5, A5, js.length, c5⟩, ⟨p7, A7, rs.length, c7⟩, rfl, rfl, ⟨by omega, by omega, j4, j5, j6, j7, j8, by show js.length ≤ _; omega, m3, by show rs.length ≤ _; omega, s3⟩, r5, r7, ⟨A3, c3, A4, c4, rfl, (R3.ext (zF (zF (zF (zF F1 E_i) G6) F20) E_e)).ext E9, (R4.ext (zF (zF (zF (zF F1 E_i) G6) F20) E_e)).ext E9⟩, A1, c1, A2, c2, A6, c6, rfl, (R1.ext (zF (zF (zF (zF F1 E_i) G6) F20) E_e)).ext E9, (R2.ext (zF (zF (zF (zF F1 E_i) G6) F20) E_e)).ext E9, (R6.ext (zF F20 E_e)).ext E9⟩
theorem SeasonOf_ok (b x weeks joints reports : Nat) (hw : 1 ≤ weeks) (hw2 : weeks ≤ 6) (hj : joints ≤ 3) (hr : reports ≤ 100) (h : AH) :
  FnM Tryz.prog (.func (.func 7) #[] ([] : List Value).toArray) [.pointer (some ⟨b, 0, none⟩), .int .i64 weeks, .int .i64 joints, .int .i64 reports] h [some (b, .cells #[.int .u64 (x : Int)] 67 (0, 0))]
  (fun v h' M' => ∃ (x' : Nat) (s : Season) (ht dt fs : List Int) (u w : Value), M' = [some (b, .cells #[.int .u64 (x' : Int)] 67 (0, 0))] ∧ v = .tuple #[u, w] ∧ SeasonS h' s u ∧ SeasonT weeks joints reports s ht dt fs
   ∧ ∃ HA hc DA dc FA fc, w = .agg #[.slice HA ht.length hc, .slice DA dt.length dc, .slice FA fs.length fc] ∧ Row h' 1 intC HA ht ∧ Row h' 1 intC DA dt ∧ Row h' 1 intC FA fs) := by
 intro V
 refine CallV.mono (SeasonOf_okM b x weeks joints reports hw hw2 hj hr h V) ?_ (fun _ _ y => y)
 rintro v H ⟨h', M', e, V', E, x', s, ht, dt, fs, u, w, a5, a7, rfl, rfl, T, r5, r7, ⟨A0, c0, A1, c1, rfl, RH, RD⟩, HA, hc, DA, dc, FA, fc, rfl, R1, R2, R3⟩
 obtain ⟨h9, E9, e9, V9, P5, P7⟩ := wl_open V'
 exact ⟨h9, _, e.trans e9, V9, E.trans E9, x', s, ht, dt, fs, _, _, rfl, rfl, ⟨A0, A1, a5.A, a7.A, c0, c1, a5.c, a7.c, rfl, RH.ext E9, RD.ext E9, ⟨fun _ _ => rfl, AccR.rd r5 P5⟩, ⟨fun _ _ => rfl, AccR.rd r7 P7⟩⟩, T, HA, hc, DA, dc, FA, fc, rfl, R1.ext E9, R2.ext E9, R3.ext E9⟩
end Go.Proofs.YtboigjfgpppeaaaGreatDoor
namespace Go.Wx
open Go Go.HL
variable [Lvl]
theorem firstErr_all {α : Type} {f : α → Int} : ∀ {l : List α}, (∀ x ∈ l, f x = 0) → firstErr f l = 0
 | [], _ => rfl
 | y :: l, h => by
  rw [firstErr, if_neg (by simp [h y (List.mem_cons_self ..)])]
  exact firstErr_all fun x hx => h x (List.mem_cons_of_mem _ hx)
theorem checkRange_of {x : Rg} {lo hi : Int} (h : lo ≤ x.mn ∧ x.mn ≤ x.mx ∧ x.mx ≤ hi) : checkRangeM x lo hi = 0 := by
 unfold checkRangeM inM
 rw [if_neg (by simp; omega), if_neg (by simp; omega), if_neg (by omega)]
theorem checkWeather_of {x : Rg} (h : -50 ≤ x.mn ∧ x.mn ≤ x.mx ∧ x.mx ≤ 100 ∧ x.mx - x.mn ≤ 2) : checkWeatherM x = 0 := by
 unfold checkWeatherM
 rw [checkRange_of ⟨h.1, h.2.1, h.2.2.1⟩, if_neg (by simp), if_neg (by omega)]
theorem NearR.bd {t lo hi d : Int} {r : Rg} (n : NearR t lo hi d r) (h1 : lo ≤ t) (h2 : t ≤ hi) : lo ≤ r.mn ∧ r.mn ≤ t ∧ t ≤ r.mx ∧ r.mx ≤ hi ∧ r.mx - r.mn ≤ 2 * d := by
 obtain ⟨u, w, a, b, c, e, rfl⟩ := n
 dsimp only
 omega
theorem NearL.mem {ts : List Int} {rs : List Rg} (n : NearL ts rs) {r : Rg} (h : r ∈ rs) : ∃ t ∈ ts, NearR t (-50) 100 1 r := by
 obtain ⟨i, hi⟩ := List.mem_iff_getElem?.1 h
 have hl := (List.getElem?_eq_some_iff.1 hi).1
 have hl' : i < ts.length := by rw [← n.len]; exact hl
 have ht : ts[i]? = some ts[i] := List.getElem?_eq_getElem hl'
 exact ⟨ts[i], List.getElem_mem _, n.at' i _ r ht hi⟩
section
variable {weeks joints reports : Nat} {s : Season} {ht dt fs : List Int} (T : SeasonT weeks joints reports s ht dt fs) (hw : weeks ≤ 6) (hj : joints ≤ 3) (hr : reports ≤ 5)
include T hw hj hr
theorem check_T : checkM s = 0 := by
 have h1 := T.w1
 have h2 := T.ww
 have h3 := T.hn.len
 have h4 := T.dn.len
 have h5 := T.dl
 have h6 := T.jl
 have h7 := T.rl
 have hwt : firstErr checkWeatherM (s.heats ++ s.damps) = 0 := firstErr_all fun r h => by
  rcases List.mem_append.1 h with h | h
  ·obtain ⟨t, ht', n⟩ := T.hn.mem h
   have := T.hb t ht'
   have := n.bd (by omega) (by omega)
   exact checkWeather_of (by omega)
  ·obtain ⟨t, ht', n⟩ := T.dn.mem h
   have := T.db t ht'
   have := n.bd (by omega) (by omega)
   exact checkWeather_of (by omega)
 have hjt : firstErr checkJointM s.joints = 0 := firstErr_all fun j h => by
  obtain ⟨i, hi⟩ := List.mem_iff_getElem?.1 h
  have hl := (List.getElem?_eq_some_iff.1 hi).1
  have hl' : i < fs.length := by rw [T.js.len]; exact hl
  have hf : fs[i]? = some fs[i] := List.getElem?_eq_getElem hl'
  obtain ⟨a, b, c, d, J⟩ := T.js.at' i j _ hi hf
  have k := J.k
  have m := J.m
  have l := J.l
  have n1 := J.h1.bd (by omega) (by omega)
  have n2 := J.h2.bd (by omega) (by omega)
  have n3 := J.h3.bd (by omega) (by omega)
  have n4 := J.h4.bd (by omega) (by omega)
  unfold checkJointM inM
  rw [if_neg (by simp; omega), checkWeather_of (x := j.high) (by omega), if_neg (by simp), checkWeather_of (x := j.low) (by omega), if_neg (by simp), checkRange_of (x := j.weeks) (by omega), if_neg (by simp), checkRange_of (x := j.life) (by omega)]
 have hrt : firstErr (checkSeenM s) s.reports = 0 := firstErr_all fun r h => by
  obtain ⟨a, b, c, d, _⟩ := T.rs r h
  have := T.js.len
  unfold checkSeenM inM
  rw [if_neg (by simp; omega), if_neg (by simp; omega)]
 unfold checkM
 rw [if_neg (by omega), if_neg (by omega), if_neg (by omega), if_neg (by omega), hwt, if_neg (by simp), if_neg (by omega), hjt, if_neg (by simp), if_neg (by omega), hrt]
end
end Go.Wx
namespace Go.Wx
open Go Go.HL
variable [Lvl]
end Go.Wx
namespace Go.Wx
open Go Go.HL
variable [Lvl]
theorem okM_iff {s : Season} {n : Int} {x : Sky} : okM s n x = true ↔ ∀ (i : Nat) j, s.joints[i]? = some j → j.kind = n → surv s n x i ≠ [] := by
 unfold okM
 rw [List.all_eq_true]
 constructor
 ·intro h i j hj hk e
  have hl := (List.getElem?_eq_some_iff.1 hj).1
  have := h i (List.mem_range.2 hl)
  unfold kindAt at this
  rw [hj] at this
  simp [hk, fateM, e, maskM] at this
 ·intro h i hi
  rw [List.mem_range] at hi
  have hj : s.joints[i]? = some s.joints[i] := List.getElem?_eq_getElem hi
  unfold kindAt
  rw [hj]
  by_cases hk : s.joints[i].kind = n
  ·have := h i _ hj hk
   simp [fateM, maskM_zero, this]
  ·simp [hk]
section
variable {weeks joints reports : Nat} {s : Season} {ht dt fs : List Int} (T : SeasonT weeks joints reports s ht dt fs) (hw : weeks ≤ 6)
include T hw
end
end Go.Wx
namespace Go.HL
open Go Go.Wx Go.RowKit
def lawK (t : Nat) (h0 : AH) : Post
 | .normal, S, D, L, h => D = [] ∧ (Valid h L → Ext h0 (wl h L)) ∧ S t = .bool true
 | .ret, S, D, L, h => D = [] ∧ (Valid h L → Ext h0 (wl h L)) ∧ S t = .bool true
 | _, _, _, _, _ => False
theorem below_of {w w' : World} (se : SameEnv w w') (e : Ext (absH w.heap) (absH w'.heap)) : Below w.heap.size w w' := by
 have hb : ∀ k, k < w.heap.size → w'.heap[k]? = w.heap[k]? := by
  intro k hk
  have h1 : absH w.heap k = some w.heap[k] := Array.getElem?_eq_getElem hk
  have h2 : w'.heap[k]? = some w.heap[k] := e k _ h1
  rw [h2]
  exact (Array.getElem?_eq_getElem hk).symm
 refine ⟨se.os, se.tape, se.output, ?_, hb⟩
 rcases Nat.lt_or_ge w'.heap.size w.heap.size with h1 | h1
 ·have h2 := hb w'.heap.size h1
  rw [Array.getElem?_eq_getElem h1] at h2
  simp at h2
 ·exact h1
theorem calls_body {P : Program} {f : FuncId} {fn : Func} {c : Code} {args : Array Value} {n t : Nat} {w : World} (hf : P.funcs[f]? = some fn) (hb : fn.body = some c) (hn : fn.ntmps = n) (ha : Nat.ble args.size n = true) (hr : fn.results = #[.tmp t]) (ht : Nat.blt t n = true)
  (x : ∀ h, h = absH w.heap → @xp ⟨false, none, none⟩ P n none c (lawK t h) (argS args) [] [] h) : Calls P f args w (fun e w' => e = .returned (.bool true) ∧ Below w.heap.size w w') := by
 letI : Lvl := ⟨false, none, none⟩
 intro cs
 have he : Frame.enter P f args .normal = mk { (default : Frame) with fn := f, kind := .normal, roundOf := none } n (argS args) [] [.code c] := by
  simp [Frame.enter, mk, hf, hb, hn, enter_tmps n args (Nat.le_of_ble_eq_true ha)]
 have hres : ∀ (S : Sl) (w' : World), S t = .bool true → (results fn (arr n S)).run P w' = .ok (.bool true) w' := by
  intro S w' hs
  unfold results
  rw [hr, List.mapM_toArray]
  have e1 : (arr n S).getD t undef = .bool true := by rw [arr_getD, if_pos (Nat.lt_of_lt_of_le (Nat.lt_succ_self t) (Nat.le_of_ble_eq_true ht)), hs]
  show Result.ok ((arr n S).getD t undef) w' = _
  rw [e1]
 have x1 := x _ rfl (absH w.heap) (by have := Fits.nil (valid_nil (Fin.abs w.heap)); rw [wl_nil] at this; exact this) { (default : Frame) with fn := f, kind := .normal, roundOf := none } rfl [] cs
 have x2 : Rch P (fun fr cs' H => cs' = cs ∧ fr.mode = .returning ∧ fr.defers = [] ∧ fr.kind = .normal ∧ fr.fn = f ∧ (∃ S, fr.tmps = arr n S ∧ S t = .bool true) ∧ Ext (absH w.heap) H) (mk { (default : Frame) with fn := f, kind := .normal, roundOf := none } n (argS args) [] [.code c]) cs (absH w.heap) := by
  refine x1.bind ?_
  rintro fr cs' H ⟨rfl, e, S', D', L', h', V', kk, a⟩
  cases e with
  | normal =>
   obtain ⟨rfl, ex, hs⟩ := kk
   have a' : fr = mk { (default : Frame) with fn := f, kind := .normal, roundOf := none } n S' [] [] := a
   subst a'
   have hH : H = wl h' L' := by rw [V'.eq]; exact hun_nil _
   subst hH
   refine .ctl (fr' := { mk { (default : Frame) with fn := f, kind := .normal, roundOf := none } n S' [] [] with mode := .returning }) (cs' := cs') (fun w => by simp [stepG, stepG.exec, mk]) (.done ⟨rfl, rfl, rfl, rfl, rfl, ⟨S', rfl, hs⟩, ex V'.valid⟩)
  | ret =>
   obtain ⟨rfl, ex, hs⟩ := kk
   obtain ⟨todo, rfl⟩ := a.1 rfl
   have hH : H = wl h' L' := by rw [V'.eq]; exact hun_nil _
   subst hH
   exact .done ⟨rfl, rfl, rfl, rfl, rfl, ⟨S', rfl, hs⟩, ex V'.valid⟩
  | _ => exact kk.elim
 obtain ⟨fr', cs', w', st, se, rfl, hm, hd, hk, hfn, ⟨S, htm, hs⟩, ex⟩ := x2.lone rfl rfl rfl w rfl
 refine ⟨.returned (.bool true), w', fr', ⟨rfl, below_of se ex⟩, ?_, hfn, hm, hd, hk, fn, by rw [hfn]; exact hf, by rw [htm]; exact hres S w' hs⟩
 rw [he]
 exact st
variable [Lvl]
end Go.HL
namespace Go.HL
open Go
variable [Lvl]
variable {P : Program} {n : Nat} {ops : Array Oper} {i : Nat} {d : Option Tmp} {op : Op} {ty : TypeId} {ps : String} {af : Array Edge} {S : Sl} {L : Pv} {h : AH} {mask : List Bool} {X : Sl → AH → Prop} {dn ac : List Nat}
end Go.HL
namespace Go.Proofs.YtboigjfgpppeaaaGreatDoor
open Go Go.HL Go.Proofs Go.Wx Go.RowKit
variable [Lvl]
set_option maxRecDepth 100000
theorem SeasonT.small {a b c : Nat} {s : Season} {ht dt fs : List Int} (T : SeasonT a b c s ht dt fs) (ha : a ≤ 6) (hb : b ≤ 3) (hc : c ≤ 100) : Small s := by
 have := T.hn.len; have := T.dn.len; have := T.dl; have := T.ww; have := T.jl; have := T.rl
 exact ⟨by omega, by omega, by omega, by omega⟩
section
variable {a b c : Nat} {s : Season} {ht dt fs : List Int} (T : SeasonT a b c s ht dt fs) (ha : a ≤ 6) (hb : b ≤ 3) (hc : c ≤ 5)
include T ha hb hc
end
end Go.Proofs.YtboigjfgpppeaaaGreatDoor
namespace Go.Wx
open Go Go.HL
variable [Lvl]
structure CheckS (s : Season) : Prop where
 w1 : 1 ≤ s.heats.length
 w6 : s.heats.length ≤ 6
 dl : s.damps.length = s.heats.length
 h : ∀ r ∈ s.heats, checkWeatherM r = 0
 d : ∀ r ∈ s.damps, checkWeatherM r = 0
 j3 : s.joints.length ≤ 3
 j : ∀ j ∈ s.joints, checkJointM j = 0
 r5 : s.reports.length ≤ 5
 r : ∀ r ∈ s.reports, checkSeenM s r = 0
theorem CheckS.ok {s : Season} (c : CheckS s) : checkM s = 0 := by
 have h1 := c.w1; have h2 := c.w6; have h3 := c.dl; have h4 := c.j3; have h5 := c.r5
 unfold checkM
 rw [if_neg (by omega), if_neg (by omega), if_neg (by omega), if_neg (by omega), firstErr_all (fun x hx => (List.mem_append.1 hx).elim (c.h x) (c.d x)), if_neg (by simp), if_neg (by omega), firstErr_all c.j, if_neg (by simp), if_neg (by omega), firstErr_all c.r]
theorem CheckS.of {s : Season} (h : checkM s = 0) : CheckS s := by
 have V := checkM_zero h
 unfold checkM at h
 split at h
 ·cases h
 ·split at h
  ·cases h
  ·split at h
   ·cases h
   ·split at h
    ·cases h
    ·split at h
     ·rename_i h1; exact absurd h h1
     ·rename_i h1
      split at h
      ·cases h
      ·split at h
       ·rename_i h2; exact absurd h h2
       ·rename_i h2
        split at h
        ·cases h
        ·have w := firstErr_zero (by simpa using h1)
         exact ⟨by omega, by omega, by omega, fun r hr => w r (List.mem_append_left _ hr), fun r hr => w r (List.mem_append_right _ hr), by omega, firstErr_zero (by simpa using h2), by omega, firstErr_zero h⟩
section
variable {α : Type} {f : α → α} {l : List α}
end
end Go.Wx
namespace Go.Proofs.YtboigjfgpppeaaaGreatDoor
open Go Go.HL Go.Proofs Go.Wx
variable [Lvl]
set_option maxRecDepth 100000
end Go.Proofs.YtboigjfgpppeaaaGreatDoor
namespace Go.Proofs.YtboigjfgpppeaaaGreatDoor
open Go Go.HL Go.Proofs Go.Wx Go.RowKit
variable [Lvl]
set_option maxRecDepth 100000
end Go.Proofs.YtboigjfgpppeaaaGreatDoor
namespace Go.Wx
open Go Go.HL
variable [Lvl]
structure SameK (s s' : Season) (n : Int) (f : Nat → Nat) : Prop where
 hs : s'.heats = s.heats
 ds : s'.damps = s.damps
 goes : ∀ (i : Nat) j, s.joints[i]? = some j → j.kind = n → s'.joints[f i]? = some j ∧ toldW s' (f i) = toldW s i
 comes : ∀ (i' : Nat) j, s'.joints[i']? = some j → j.kind = n → ∃ i, s.joints[i]? = some j ∧ f i = i'
section
variable {s s' : Season} {n : Int} {f : Nat → Nat}
theorem SameK.surv (e : SameK s s' n f) (x : Sky) {i : Nat} {j : Joint} (hj : s.joints[i]? = some j) (hk : j.kind = n) : surv s' n x (f i) = surv s n x i := by
 obtain ⟨h1, h2⟩ := e.goes i j hj hk
 unfold Wx.surv
 rw [hj, h1, h2, e.hs]
theorem SameK.all (e : SameK s s' n f) : allSkies s' n = allSkies s n := by unfold allSkies weatherM; rw [e.hs, e.ds]
theorem SameK.okE (e : SameK s s' n f) (x : Sky) : okM s' n x = okM s n x := by
 rw [Bool.eq_iff_iff, okM_iff, okM_iff]
 constructor
 ·intro h i j hj hk; rw [← e.surv x hj hk]; exact h _ _ (e.goes i j hj hk).1 hk
 ·intro h i' j hj hk
  obtain ⟨i, hi, rfl⟩ := e.comes i' j hj hk
  rw [e.surv x hi hk]
  exact h _ _ hi hk
end
structure Order (o : List Int) (n : Nat) : Prop where
 len : o.length = n
 bd : ∀ x ∈ o, 0 ≤ x ∧ x < n
 inj : ∀ (i k : Nat), i < n → k < n → o[i]? = o[k]? → i = k
theorem Order.at' {o : List Int} {n : Nat} (O : Order o n) {i : Nat} (hi : i < n) : ∃ k : Nat, o[i]? = some (k : Int) ∧ k < n := by
 have hl : i < o.length := by rw [O.len]; exact hi
 have := O.bd o[i] (List.getElem_mem hl)
 exact ⟨o[i].toNat, by rw [List.getElem?_eq_getElem hl]; congr 1; omega, by omega⟩
def ordN (o : List Int) (i : Nat) : Nat := (o.getD i 0).toNat
theorem Order.ordN {o : List Int} {n : Nat} (O : Order o n) {i : Nat} (hi : i < n) : o[i]? = some ((ordN o i : Nat) : Int) ∧ Wx.ordN o i < n := by
 obtain ⟨k, h1, h2⟩ := O.at' hi
 unfold Wx.ordN
 rw [List.getD_eq_getElem?_getD, h1]
 simpa using h2
def moved (o : List Int) (r : Seen) : Seen := { r with joint := o.getD r.joint.toNat 0 }
structure Moved (s x : Season) (o : List Int) : Prop where
 ord : Order o s.joints.length
 hs : x.heats = s.heats
 ds : x.damps = s.damps
 jl : x.joints.length = s.joints.length
 js : ∀ i, i < s.joints.length → x.joints[ordN o i]? = s.joints[i]?
 rs : x.reports = s.reports.map (moved o)
end Go.Wx
namespace Go.Wx
open Go Go.HL
variable [Lvl]
theorem wrL_mid (a c : List Value) : ∀ (vs b : List Value) (j : Nat), j + vs.length ≤ b.length → wrL (a ++ b ++ c) (a.length + j) vs = a ++ wrL b j vs ++ c
 | [], b, j, _ => rfl
 | v :: vs, b, j, h => by
  rw [List.length_cons] at h
  have hj : j < b.length := by omega
  have e : (a ++ b ++ c).set (a.length + j) v = a ++ b.set j v ++ c := by
   rw [List.append_assoc, List.set_append_right _ _ (by omega), Nat.add_sub_cancel_left, List.set_append_left _ _ hj, List.append_assoc]
  show wrL ((a ++ b ++ c).set (a.length + j) v) (a.length + j + 1) vs = _
  rw [e, Nat.add_assoc, wrL_mid a c vs (b.set j v) (j + 1) (by rw [List.length_set]; omega)]
  rfl
section
variable {α : Type} {enc : α → List Value} {m : Nat} (hm : ∀ x, (enc x).length = m)
include hm
end
structure MixP (l : List Int) (i : Nat) : Prop where
 bd : ∀ m, m < i → ∃ v : Int, l[m]? = some v ∧ 0 ≤ v ∧ v < i
 inj : ∀ m m' : Nat, m < i → m' < i → l[m]? = l[m']? → m = m'
theorem MixP.zero (l : List Int) : MixP l 0 := ⟨fun m h => absurd h (Nat.not_lt_zero m), fun m _ h => absurd h (Nat.not_lt_zero m)⟩
def mixS (l : List Int) (i k : Nat) : List Int := (l.set i (l.getD k 0)).set k (i : Int)
theorem mixS_get {l : List Int} {i k : Nat} (hi : i < l.length) (hk : k ≤ i) (m : Nat) : (mixS l i k)[m]? = if m = k then some (i : Int) else if m = i then l[k]? else l[m]? := by
 unfold mixS
 have hkl : k < l.length := by omega
 rw [List.getElem?_set, List.length_set]
 by_cases h1 : k = m
 ·subst h1
  simp [hkl]
 ·rw [if_neg h1, if_neg (fun e => h1 e.symm), List.getElem?_set]
  by_cases h2 : i = m
  ·subst h2
   simp [hi, List.getD_eq_getElem?_getD, List.getElem?_eq_getElem hkl]
  ·rw [if_neg h2, if_neg (fun e => h2 e.symm)]
theorem MixP.step {l : List Int} {i k : Nat} (P : MixP l i) (hi : i < l.length) (hk : k ≤ i) : MixP (mixS l i k) (i + 1) := by
 have gk : k < i → ∃ v : Int, l[k]? = some v ∧ 0 ≤ v ∧ v < i := fun h => P.bd k h
 constructor
 ·intro m hm
  rw [mixS_get hi hk]
  by_cases h1 : m = k
  ·rw [if_pos h1]; exact ⟨i, rfl, by omega, by omega⟩
  ·rw [if_neg h1]
   by_cases h2 : m = i
   ·rw [if_pos h2]
    obtain ⟨v, e, a, b⟩ := gk (by omega)
    exact ⟨v, e, a, by omega⟩
   ·rw [if_neg h2]
    obtain ⟨v, e, a, b⟩ := P.bd m (by omega)
    exact ⟨v, e, a, by omega⟩
 ·have val : ∀ m, m < i + 1 → ∃ v : Int, (mixS l i k)[m]? = some v ∧ (m ≠ k → v < i) ∧ (m = k → v = i) := by
   intro m hm
   rw [mixS_get hi hk]
   by_cases h1 : m = k
   ·rw [if_pos h1]; exact ⟨i, rfl, fun h => absurd h1 h, fun _ => rfl⟩
   ·rw [if_neg h1]
    by_cases h2 : m = i
    ·rw [if_pos h2]
     obtain ⟨v, e, a, b⟩ := gk (by omega)
     exact ⟨v, e, fun _ => b, fun h => absurd h h1⟩
    ·rw [if_neg h2]
     obtain ⟨v, e, a, b⟩ := P.bd m (by omega)
     exact ⟨v, e, fun _ => b, fun h => absurd h h1⟩
  intro m m' hm hm' e
  obtain ⟨v, e1, a1, b1⟩ := val m hm
  obtain ⟨v', e2, a2, b2⟩ := val m' hm'
  have hv : v = v' := by rw [e1, e2] at e; simpa using e
  by_cases h1 : m = k
  ·by_cases h2 : m' = k
   ·omega
   ·have := a2 h2; have := b1 h1; omega
  ·by_cases h2 : m' = k
   ·have := a1 h1; have := b2 h2; omega
   ·rw [mixS_get hi hk, mixS_get hi hk, if_neg h1, if_neg h2] at e
    by_cases h3 : m = i
    ·by_cases h4 : m' = i
     ·omega
     ·rw [if_pos h3, if_neg h4] at e
      have := P.inj k m' (by omega) (by omega) e
      omega
    ·by_cases h4 : m' = i
     ·rw [if_neg h3, if_pos h4] at e
      have := P.inj m k (by omega) (by omega) e
      omega
     ·rw [if_neg h3, if_neg h4] at e
      exact P.inj m m' (by omega) (by omega) e
theorem MixP.order {l : List Int} {n : Nat} (P : MixP l n) (hl : l.length = n) : Order l n := by
 refine ⟨hl, fun x hx => ?_, P.inj⟩
 obtain ⟨i, hi⟩ := List.mem_iff_getElem?.1 hx
 have := (List.getElem?_eq_some_iff.1 hi).1
 obtain ⟨v, e, a, b⟩ := P.bd i (by omega)
 rw [hi] at e
 cases e
 exact ⟨a, b⟩
end Go.Wx
namespace Go.Proofs.YtboigjfgpppeaaaGreatDoor
open Go Go.HL Go.Proofs Go.Wx
variable [Lvl]
set_option maxRecDepth 100000
end Go.Proofs.YtboigjfgpppeaaaGreatDoor
namespace Go.Proofs.YtboigjfgpppeaaaGreatDoor
open Go Go.HL Go.Proofs Go.Wx Go.RowKit
variable [Lvl]
set_option maxRecDepth 100000
end Go.Proofs.YtboigjfgpppeaaaGreatDoor
namespace Go.Proofs.YtboigjfgpppeaaaGreatDoor
open Go Go.HL Go.Proofs Go.Wx
variable [Lvl]
set_option maxRecDepth 100000
end Go.Proofs.YtboigjfgpppeaaaGreatDoor
namespace Go.Wx
open Go Go.HL
variable [Lvl]
end Go.Wx
namespace Go.Proofs.YtboigjfgpppeaaaGreatDoor
open Go Go.HL Go.Proofs Go.Wx
variable [Lvl]
set_option maxRecDepth 100000
def LLv (h : AH) (ls : List (List Int)) (vs : List Value) : Prop := vs.length = ls.length ∧ ∀ (i : Nat) l v, ls[i]? = some l → vs[i]? = some v → SlR h 1 intC l v
theorem LLv.ext {h h' : AH} {ls : List (List Int)} {vs : List Value} (x : LLv h ls vs) (E : Ext h h') : LLv h' ls vs := ⟨x.1, fun i l v a b => (x.2 i l v a b).ext E⟩
theorem LLv.nil {h : AH} : LLv h [] [] := ⟨rfl, fun i l v a _ => by simp at a⟩
theorem LLv.snoc {h : AH} {ls : List (List Int)} {vs : List Value} (x : LLv h ls vs) {l : List Int} {v : Value} (s : SlR h 1 intC l v) : LLv h (ls ++ [l]) (vs ++ [v]) := by
 refine ⟨by simp [x.1], fun i l' v' a b => ?_⟩
 by_cases hi : i < ls.length
 ·rw [List.getElem?_append_left hi] at a
  rw [List.getElem?_append_left (by rw [x.1]; exact hi)] at b
  exact x.2 i l' v' a b
 ·have h1 := (List.getElem?_eq_some_iff.1 a).1
  have hie : i = ls.length := by simp at h1; omega
  subst hie
  rw [List.getElem?_append_right (Nat.le_refl _), Nat.sub_self] at a
  rw [List.getElem?_append_right (by rw [x.1]; exact Nat.le_refl _), x.1, Nat.sub_self] at b
  simp at a b
  subst a b
  exact s
end Go.Proofs.YtboigjfgpppeaaaGreatDoor
namespace Go.Wx
open Go Go.HL
variable [Lvl]
end Go.Wx
namespace Go.Proofs.YtboigjfgpppeaaaGreatDoor
open Go Go.HL Go.Proofs Go.Wx Go.RowKit
variable [Lvl]
set_option maxRecDepth 100000
end Go.Proofs.YtboigjfgpppeaaaGreatDoor
namespace Go.Wx
open Go Go.HL
variable [Lvl]
end Go.Wx
namespace Go.Proofs.YtboigjfgpppeaaaGreatDoor
open Go Go.HL Go.Proofs Go.Wx
variable [Lvl]
set_option maxRecDepth 100000
end Go.Proofs.YtboigjfgpppeaaaGreatDoor
namespace Go.Proofs.YtboigjfgpppeaaaGreatDoor
open Go Go.HL Go.Proofs Go.Wx
variable [Lvl]
set_option maxRecDepth 100000
theorem rgEqD (d : Nat) (a b : Rg) : pev Tryz.prog (Op.equalIn (d + 2) 56 (.agg #[.int .i64 a.mn, .int .i64 a.mx]) (.agg #[.int .i64 b.mn, .int .i64 b.mx])) = some (decide (a = b)) := by
 have h1 := eq_struct (P := Tryz.prog) (t := 56) (d := d + 1) (fs := [_, _]) (xs := #[.int .i64 a.mn, .int .i64 a.mx]) (ys := #[.int .i64 b.mn, .int .i64 b.mx]) (rs := [a.mn == b.mn, a.mx == b.mx]) rfl (by kernel_rfl) rfl ?_
 ·refine h1.trans ?_
  obtain ⟨a1, a2⟩ := a
  obtain ⟨b1, b2⟩ := b
  simp only [List.all_cons, List.all_nil, id, Bool.and_true, Option.some.injEq]
  rw [Bool.eq_iff_iff]
  simp
 ·intro i f r hf hr
  match i, hf, hr with
  | 0, hf, hr => cases hf; cases hr; exact ⟨by decide, _, _, rfl, rfl, eq_int rfl _ _⟩
  | 1, hf, hr => cases hf; cases hr; exact ⟨by decide, _, _, rfl, rfl, eq_int rfl _ _⟩
  | i + 2, hf, hr => simp at hf
theorem rgEq (a b : Rg) : pev Tryz.prog (Op.equalIn Op.maxDepth 56 (.agg (rgC a).toArray) (.agg (rgC b).toArray)) = some (decide (a = b)) := rgEqD 9998 a b
theorem jointEq (a b : Joint) : pev Tryz.prog (Op.equalIn Op.maxDepth 60 (.agg (jointC a).toArray) (.agg (jointC b).toArray)) = some (decide (a = b)) := by
 have h1 := eq_struct (P := Tryz.prog) (t := 60) (d := 9999) (fs := [_, _, _, _, _]) (xs := (jointC a).toArray) (ys := (jointC b).toArray) (rs := [a.kind == b.kind, decide (a.high = b.high), decide (a.low = b.low), decide (a.weeks = b.weeks), decide (a.life = b.life)]) rfl (by kernel_rfl) rfl ?_
 ·refine h1.trans ?_
  obtain ⟨a1, a2, a3, a4, a5⟩ := a
  obtain ⟨b1, b2, b3, b4, b5⟩ := b
  simp only [List.all_cons, List.all_nil, id, Bool.and_true, Option.some.injEq]
  rw [Bool.eq_iff_iff]
  simp
 ·intro i f r hf hr
  match i, hf, hr with
  | 0, hf, hr => cases hf; cases hr; exact ⟨by decide, _, _, rfl, rfl, eq_int rfl _ _⟩
  | 1, hf, hr => cases hf; cases hr; exact ⟨by decide, _, _, rfl, rfl, rgEqD 9997 _ _⟩
  | 2, hf, hr => cases hf; cases hr; exact ⟨by decide, _, _, rfl, rfl, rgEqD 9997 _ _⟩
  | 3, hf, hr => cases hf; cases hr; exact ⟨by decide, _, _, rfl, rfl, rgEqD 9997 _ _⟩
  | 4, hf, hr => cases hf; cases hr; exact ⟨by decide, _, _, rfl, rfl, rgEqD 9997 _ _⟩
  | i + 5, hf, hr => simp at hf
theorem seenEq (a b : Seen) : pev Tryz.prog (Op.equalIn Op.maxDepth 63 (.agg (seenC a).toArray) (.agg (seenC b).toArray)) = some (decide (a = b)) := by
 have h1 := eq_struct (P := Tryz.prog) (t := 63) (d := 9999) (fs := [_, _, _]) (xs := (seenC a).toArray) (ys := (seenC b).toArray) (rs := [a.joint == b.joint, a.week == b.week, a.failed == b.failed]) rfl (by kernel_rfl) rfl ?_
 ·refine h1.trans ?_
  obtain ⟨a1, a2, a3⟩ := a
  obtain ⟨b1, b2, b3⟩ := b
  simp only [List.all_cons, List.all_nil, id, Bool.and_true, Option.some.injEq]
  rw [Bool.eq_iff_iff]
  simp [and_assoc]
 ·intro i f r hf hr
  match i, hf, hr with
  | 0, hf, hr => cases hf; cases hr; exact ⟨by decide, _, _, rfl, rfl, eq_int rfl _ _⟩
  | 1, hf, hr => cases hf; cases hr; exact ⟨by decide, _, _, rfl, rfl, eq_int rfl _ _⟩
  | 2, hf, hr => cases hf; cases hr; exact ⟨by decide, _, _, rfl, rfl, eq_bool rfl _ _⟩
  | i + 3, hf, hr => simp at hf
def sameN {α : Type} [DecidableEq α] (p : Bool) (a b : List α) (k : Nat) : Bool := p && decide (a.take k = b.take k)
theorem sameN_zero {α : Type} [DecidableEq α] (p : Bool) (a b : List α) : sameN p a b 0 = p := by simp [sameN]
theorem sameN_succ {α : Type} [DecidableEq α] {a b : List α} {k : Nat} (ha : k < a.length) (hb : k < b.length) (h : sameN true a b k = true) : sameN true a b (k + 1) = decide (a[k] = b[k]) := by
 unfold sameN at h ⊢
 simp only [Bool.true_and, decide_eq_true_eq] at h
 rw [Bool.true_and, take_snoc ha, take_snoc hb, h, decide_eq_decide]
 constructor
 ·intro e
  have := List.append_cancel_left e
  injection this
 ·intro e; rw [e]
theorem sameN_all {α : Type} [DecidableEq α] {a b : List α} (hl : a.length = b.length) (p : Bool) : sameN p a b a.length = (p && decide (a = b)) := by
 unfold sameN
 rw [List.take_length, hl, List.take_length]
theorem sameN_no {α : Type} [DecidableEq α] {a b : List α} {k : Nat} {p : Bool} (h : sameN p a b k = false) : (p && decide (a = b)) = false := by
 unfold sameN at h
 cases p with
 | false => rfl
 | true =>
  rw [Bool.true_and, decide_eq_false_iff_not] at h ⊢
  intro e; rw [e] at h; exact h rfl
theorem sameRanges_ok (a b : List Rg) (A B : Option Addr) (ca cb : Nat) (h : AH) (Ra : Row h 2 rgC A a) (Rb : Row h 2 rgC B b) (ha : a.length < 2 ^ 40) :
  FnT Tryz.prog 37 #[.slice A a.length ca, .slice B b.length cb] h (fun v _ => v = .bool (decide (a = b))) := by
 refine qZ Tryz.func37 rfl Tryz.ntmps37 rfl ?_
 refine qE ?_
 refine qB rfl ?_
 refine qA (qD (v := .bool _) rfl) ?_
 refine qE ?_
 refine qB rfl ?_
 refine qA (qC (v := .slice _ _ _) rfl) ?_
 refine qA (wQ rfl rfl) ?_
 refine qA (qC (v := .slice _ _ _) rfl) ?_
 refine qA (wQ rfl rfl) ?_
 refine qA (qK (v := .bool _) rfl) ?_
 refine qA (qD (v := .bool _) rfl) ?_
 refine qE ?_
 refine qE ?_
 refine qB rfl ?_
 refine qA (qD (v := .int .i64 _) rfl) ?_
 refine qS ?_
 obtain ⟨p, hp⟩ : ∃ p, decide (a.length = b.length) = p := ⟨_, rfl⟩
 have hp' : Value.bool ((a.length : Int) == (b.length : Int)) = .bool p := by rw [natBeq, hp]
 refine xp_loopB [5, 6, 12, 13, 14, 15, 16, 17, 18, 19, 20, 21, 22, 23, 24, 25, 26, 27, 28, 29] 0 (α := Nat) (fun k => [(5, .bool (sameN p a b k)), (6, .int .i64 k)]) (fun k => _) (fun k h_k => k ≤ a.length) (fun k => a.length - k) (0) ⟨(by rw [sameN_zero]; exact hp'), rfl, trivial⟩ (rfl) (Nat.zero_le _) ?_
 rintro k T1 h_k E_k J_k
 refine qU [] rfl ?_
 obtain ⟨q, hq⟩ : ∃ q, sameN p a b k = q := ⟨_, rfl⟩
 rw [hq]
 cases q with
 | false =>
  refine qE ?_
  refine qE ?_
  refine qB rfl ?_
  refine qA (qC (v := .bool _) rfl) ?_
  refine qA (qC (v := .bool _) rfl) ?_
  refine qM rfl rfl ?_
  refine qM rfl rfl ?_
  refine qM rfl rfl ?_
  refine qM rfl rfl ?_
  refine qA (wV rfl rfl (v := .bool _) rfl) ?_
  refine wM rfl (rfl) ?_
  refine wP ?_
  refine qE ?_
  refine qB rfl ?_
  refine qA (qC (v := .bool _) rfl) ?_
  refine qA (qD (v := .bool _) rfl) ?_
  refine qT ?_
  refine qL (vs := [_]) Tryz.results37 ⟨qI rfl rfl, trivial⟩ fun V => ?_
  exact ⟨(zF E_k (qP V)), congrArg Value.bool (by have e := sameN_no hq; rw [← hp] at e; cases hd : decide (a = b) with | false => rfl | true => rw [hd] at e; have := of_decide_eq_true hd; subst this; simp at e)⟩
 | true =>
  have hpt : p = true := by cases p with | true => rfl | false => cases hq
  subst hpt
  have hlen : a.length = b.length := of_decide_eq_true hp
  refine qE ?_
  refine qE ?_
  refine qB rfl ?_
  refine qA (qC (v := .bool _) rfl) ?_
  refine qA (qC (v := .bool _) rfl) ?_
  refine qJ rfl rfl ?_
  refine qA (qC (v := .int .i64 _) rfl) ?_
  refine qJ rfl rfl ?_
  refine qA (qC (v := .slice _ _ _) rfl) ?_
  refine qJ rfl rfl ?_
  refine qA (wQ rfl rfl) ?_
  refine qJ rfl rfl ?_
  refine qA (qK (v := .bool _) rfl) ?_
  refine qA (wO rfl rfl (v := .bool _) rfl) ?_
  refine qV rfl (fun ht => ?_) (fun ht => ?_)
  ·skip
   have hlt : k < a.length := ltI ht
   have hlt2 : k < b.length := by omega
   obtain ⟨g, off, hA, hc⟩ := (Ra.ext E_k).at (by omega) hlt
   obtain ⟨g2, off2, hB, hc2⟩ := (Rb.ext E_k).at (by omega) hlt2
   refine qN ?_
   refine qE ?_
   refine qS ?_
   refine xp_dw [] rfl rfl rfl ?_
   refine qG (i := 0) rfl (by decide +kernel) (qC (v := .slice _ _ _) rfl) ?_
   refine qG (i := 1) rfl (by decide +kernel) (qC (v := .int .i64 _) rfl) ?_
   refine qG (i := 2) rfl (by decide +kernel) (wT rfl hA rfl rfl rfl (by omega) (by omega)) ?_
   refine wH (i := 3) rfl (by decide +kernel) ?_
   refine op_loadA rfl rfl rfl rfl (hc) ?_
   refine qG (i := 4) rfl (by decide +kernel) (qC (v := .slice _ _ _) rfl) ?_
   refine qG (i := 5) rfl (by decide +kernel) (qC (v := .int .i64 _) rfl) ?_
   refine qG (i := 6) rfl (by decide +kernel) (wT rfl hB rfl rfl rfl (by omega) (by omega)) ?_
   refine wH (i := 7) rfl (by decide +kernel) ?_
   refine op_loadA rfl rfl rfl rfl (hc2) ?_
   refine qG (i := 8) rfl (by decide +kernel) (pv_eqA rfl rfl (by kernel_rfl) (rgEq _ _)) ?_
   refine qG (i := 9) rfl (by decide +kernel) (qD (v := .bool _) rfl) ?_
   refine zC rfl ?_
   refine qB rfl ?_
   refine qA (qC (v := .int .i64 _) rfl) ?_
   refine qA (qR rfl (by omega)) ?_
   refine qA (qD (v := .int .i64 _) rfl) ?_
   refine ⟨k + 1, ⟨(by rw [sameN_succ hlt hlt2 hq]; rfl), rfl, trivial⟩, rfl, rfl, E_k, fun h3 E3 => hlt, by first | omega | (dsimp only; omega), ?_⟩
   repeat (first | exact qY _ _ _ | refine wE (by decide) ?_ | refine qW rfl ?_ | refine wG rfl ?_)
  ·skip
   have hke : k = a.length := by have := geI ht; omega
   subst hke
   refine wP ?_
   refine qE ?_
   refine qB rfl ?_
   refine qA (qC (v := .bool _) rfl) ?_
   refine qA (qD (v := .bool _) rfl) ?_
   refine qT ?_
   refine qL (vs := [_]) Tryz.results37 ⟨qI rfl rfl, trivial⟩ fun V => ?_
   exact ⟨(zF E_k (qP V)), congrArg Value.bool (by rw [sameN_all hlen] at hq; rw [← hq]; rfl)⟩
structure PreS (a b : Season) (p : Bool) : Prop where
 no : p = false → a ≠ b
 yes : p = true → a.heats = b.heats ∧ a.damps = b.damps ∧ a.joints.length = b.joints.length ∧ a.reports.length = b.reports.length
set_option maxHeartbeats 2000000 in
theorem sameSeasons_ok (a b : Season) (A0 A1 A2 A3 B0 B1 B2 B3 : Option Addr) (c0 c1 c2 c3 d0 d1 d2 d3 : Nat) (h : AH) (Ra : SeasonR h A0 A1 A2 A3 a) (Rb : SeasonR h B0 B1 B2 B3 b) (h0 : a.heats.length < 2 ^ 40) (h1 : a.damps.length < 2 ^ 40) (h2 : a.joints.length < 2 ^ 40) (h3 : a.reports.length < 2 ^ 40) :
  FnT Tryz.prog 14 #[seasonV A0 A1 A2 A3 c0 c1 c2 c3 a, seasonV B0 B1 B2 B3 d0 d1 d2 d3 b] h (fun v _ => v = .bool (decide (a = b))) := by
 refine qZ Tryz.func14 rfl Tryz.ntmps14 rfl ?_
 refine qE ?_
 refine qB rfl ?_
 refine zA (v := .agg #[.slice _ _ _, .slice _ _ _, .slice _ _ _, .slice _ _ _]) (cs := [_, _, _, _]) rfl rfl fun b2 hb2 => ?_
 refine qH [_] rfl ?_
 refine zA (v := .agg #[.slice _ _ _, .slice _ _ _, .slice _ _ _, .slice _ _ _]) (cs := [_, _, _, _]) rfl rfl fun b3 hb3 => ?_
 refine qH [_, _] rfl ?_
 refine qA (qD (v := .bool _) rfl) ?_
 refine xp_cutB [5, 8, 9, 10, 11, 12, 13, 14, 15, 16, 17, 18, 19, 20, 21, 22, 23, 24, 25, 26, 27, 28, 29, 30, 31, 32, 33, 34, 35, 36, 37] 2 (α := Bool) (fun p => [(5, .bool p)]) (fun p L => L) (fun p h_p => PreS a b p) ?_ ?_
 ·skip
  refine qB rfl ?_
  refine qA (qF rfl rfl rfl rfl 0 rfl) ?_
  refine qO 0 (v := .slice _ _ _) rfl rfl rfl rfl ?_
  refine qA (qF rfl rfl rfl rfl 0 rfl) ?_
  refine qO 1 (v := .slice _ _ _) rfl rfl rfl rfl ?_
  have HS := sameRanges_ok a.heats b.heats A0 B0 c0 d0 h (Ra.heats.ext (Ext.refl _)) (Rb.heats.ext (Ext.refl _)) h0
  rcases Bool.eq_false_or_eq_true (decide (a.heats = b.heats)) with e1 | e1
  ·skip
   rw [e1] at HS
   have f1 := of_decide_eq_true e1
   refine wI (caps := []) (vs := [.slice _ _ _, .slice _ _ _]) rfl rfl rfl (HS) ?_
   rintro _ g1 E1 rfl
   refine qA (qC (v := .bool _) rfl) ?_
   refine qJ rfl rfl ?_
   refine qA (qF rfl rfl rfl rfl 1 rfl) ?_
   refine qJ rfl rfl ?_
   refine qO 0 (v := .slice _ _ _) rfl rfl rfl rfl ?_
   refine qJ rfl rfl ?_
   refine qA (qF rfl rfl rfl rfl 1 rfl) ?_
   refine qJ rfl rfl ?_
   refine qO 1 (v := .slice _ _ _) rfl rfl rfl rfl ?_
   refine qJ rfl rfl ?_
   have HD := sameRanges_ok a.damps b.damps A1 B1 c1 d1 g1 (Ra.damps.ext E1) (Rb.damps.ext E1) h1
   rcases Bool.eq_false_or_eq_true (decide (a.damps = b.damps)) with e2 | e2
   ·skip
    rw [e2] at HD
    have f2 := of_decide_eq_true e2
    refine wI (caps := []) (vs := [.slice _ _ _, .slice _ _ _]) rfl rfl rfl (HD) ?_
    rintro _ g2 E2 rfl
    rcases Bool.eq_false_or_eq_true ((a.joints.length : Int) == (b.joints.length : Int)) with e3 | e3
    ·skip
     have f3 : a.joints.length = b.joints.length := by simpa [natBeq] using e3
     refine qA (wO rfl rfl (v := .bool _) rfl) ?_
     refine qA (qC (v := .bool _) rfl) ?_
     refine qJ rfl rfl ?_
     refine qA (qF rfl rfl rfl rfl 2 rfl) ?_
     refine qJ rfl rfl ?_
     refine qO 0 (v := .slice _ _ _) rfl rfl rfl rfl ?_
     refine qJ rfl rfl ?_
     refine qA (wQ rfl rfl) ?_
     refine qJ rfl rfl ?_
     refine qA (qF rfl rfl rfl rfl 2 rfl) ?_
     refine qJ rfl rfl ?_
     refine qO 1 (v := .slice _ _ _) rfl rfl rfl rfl ?_
     refine qJ rfl rfl ?_
     refine qA (wQ rfl rfl) ?_
     refine qJ rfl rfl ?_
     refine qA (qK (v := .bool _) rfl) ?_
     refine qA (wO rfl rfl (v := .bool _) rfl) ?_
     refine qA (qC (v := .bool _) rfl) ?_
     refine qJ rfl e3 ?_
     refine qA (qF rfl rfl rfl rfl 3 rfl) ?_
     refine qJ rfl e3 ?_
     refine qO 0 (v := .slice _ _ _) rfl rfl rfl rfl ?_
     refine qJ rfl e3 ?_
     refine qA (wQ rfl rfl) ?_
     refine qJ rfl e3 ?_
     refine qA (qF rfl rfl rfl rfl 3 rfl) ?_
     refine qJ rfl e3 ?_
     refine qO 1 (v := .slice _ _ _) rfl rfl rfl rfl ?_
     refine qJ rfl e3 ?_
     refine qA (wQ rfl rfl) ?_
     refine qJ rfl e3 ?_
     refine qA (qK (v := .bool _) rfl) ?_
     refine qA (wO rfl e3 (v := .bool _) rfl) ?_
     refine qA (qD (v := .bool _) rfl) ?_
     refine ⟨((a.reports.length : Int) == (b.reports.length : Int)), ⟨rfl, trivial⟩, rfl, rfl, (zF E1 E2), fun h3 E3 => ⟨fun e hh => by subst hh; simp at e, fun e => ⟨f1, f2, f3, by simpa [natBeq] using e⟩⟩, ?_⟩
     repeat (first | exact wX _ _ | exact qY _ _ _ | refine wE (by decide) ?_ | refine qW rfl ?_ | refine wG rfl ?_)
    ·skip
     refine qA (wO rfl rfl (v := .bool _) rfl) ?_
     refine qA (qC (v := .bool _) rfl) ?_
     refine qJ rfl rfl ?_
     refine qA (qF rfl rfl rfl rfl 2 rfl) ?_
     refine qJ rfl rfl ?_
     refine qO 0 (v := .slice _ _ _) rfl rfl rfl rfl ?_
     refine qJ rfl rfl ?_
     refine qA (wQ rfl rfl) ?_
     refine qJ rfl rfl ?_
     refine qA (qF rfl rfl rfl rfl 2 rfl) ?_
     refine qJ rfl rfl ?_
     refine qO 1 (v := .slice _ _ _) rfl rfl rfl rfl ?_
     refine qJ rfl rfl ?_
     refine qA (wQ rfl rfl) ?_
     refine qJ rfl rfl ?_
     refine qA (qK (v := .bool _) rfl) ?_
     refine qA (wO rfl rfl (v := .bool _) rfl) ?_
     refine qA (qC (v := .bool _) rfl) ?_
     refine qM rfl e3 ?_
     refine qM rfl e3 ?_
     refine qM rfl e3 ?_
     refine qM rfl e3 ?_
     refine qM rfl e3 ?_
     refine qM rfl e3 ?_
     refine qM rfl e3 ?_
     refine qA (wV rfl e3 (v := .bool _) rfl) ?_
     refine qA (qD (v := .bool _) rfl) ?_
     refine ⟨false, ⟨rfl, trivial⟩, rfl, rfl, (zF E1 E2), fun h3 E3 => ⟨fun _ hh => by subst hh; simp at e3, fun e => (by cases e)⟩, ?_⟩
     repeat (first | exact wX _ _ | exact qY _ _ _ | refine wE (by decide) ?_ | refine qW rfl ?_ | refine wG rfl ?_)
   ·skip
    rw [e2] at HD
    refine wI (caps := []) (vs := [.slice _ _ _, .slice _ _ _]) rfl rfl rfl (HD) ?_
    rintro _ g2 E2 rfl
    refine qA (wO rfl rfl (v := .bool _) rfl) ?_
    refine qA (qC (v := .bool _) rfl) ?_
    refine qM rfl rfl ?_
    refine qM rfl rfl ?_
    refine qM rfl rfl ?_
    refine qM rfl rfl ?_
    refine qM rfl rfl ?_
    refine qM rfl rfl ?_
    refine qM rfl rfl ?_
    refine qA (wV rfl rfl (v := .bool _) rfl) ?_
    refine qA (qC (v := .bool _) rfl) ?_
    refine qM rfl rfl ?_
    refine qM rfl rfl ?_
    refine qM rfl rfl ?_
    refine qM rfl rfl ?_
    refine qM rfl rfl ?_
    refine qM rfl rfl ?_
    refine qM rfl rfl ?_
    refine qA (wV rfl rfl (v := .bool _) rfl) ?_
    refine qA (qD (v := .bool _) rfl) ?_
    refine ⟨false, ⟨rfl, trivial⟩, rfl, rfl, (zF E1 E2), fun h3 E3 => ⟨fun _ hh => by subst hh; simp at e2, fun e => (by cases e)⟩, ?_⟩
    repeat (first | exact wX _ _ | exact qY _ _ _ | refine wE (by decide) ?_ | refine qW rfl ?_ | refine wG rfl ?_)
  ·skip
   rw [e1] at HS
   refine wI (caps := []) (vs := [.slice _ _ _, .slice _ _ _]) rfl rfl rfl (HS) ?_
   rintro _ g1 E1 rfl
   refine qA (qC (v := .bool _) rfl) ?_
   refine qM rfl rfl ?_
   refine qM rfl rfl ?_
   refine qM rfl rfl ?_
   refine qM rfl rfl ?_
   refine qM rfl rfl ?_
   refine qA (wV rfl rfl (v := .bool _) rfl) ?_
   refine qA (qC (v := .bool _) rfl) ?_
   refine qM rfl rfl ?_
   refine qM rfl rfl ?_
   refine qM rfl rfl ?_
   refine qM rfl rfl ?_
   refine qM rfl rfl ?_
   refine qM rfl rfl ?_
   refine qM rfl rfl ?_
   refine qA (wV rfl rfl (v := .bool _) rfl) ?_
   refine qA (qC (v := .bool _) rfl) ?_
   refine qM rfl rfl ?_
   refine qM rfl rfl ?_
   refine qM rfl rfl ?_
   refine qM rfl rfl ?_
   refine qM rfl rfl ?_
   refine qM rfl rfl ?_
   refine qM rfl rfl ?_
   refine qA (wV rfl rfl (v := .bool _) rfl) ?_
   refine qA (qD (v := .bool _) rfl) ?_
   refine ⟨false, ⟨rfl, trivial⟩, rfl, rfl, E1, fun h3 E3 => ⟨fun _ hh => by subst hh; simp at e1, fun e => (by cases e)⟩, ?_⟩
   repeat (first | exact wX _ _ | exact qY _ _ _ | refine wE (by decide) ?_ | refine qW rfl ?_ | refine wG rfl ?_)
 ·rintro p T1 h_p E_p J_p
  refine qU [_, _] rfl ?_
  refine xp_cutB [5, 6, 38, 39, 40, 41, 42, 43, 44, 45, 46, 47, 48, 49, 50, 51, 52, 53, 54, 55, 56, 57, 58] 2 (α := Bool) (fun u => [(5, .bool u)]) (fun u L => L) (fun u h_u => u = (p && decide (a.joints = b.joints))) ?_ ?_
  ·skip
   refine qE ?_
   refine qB rfl ?_
   refine qA (qD (v := .int .i64 _) rfl) ?_
   refine qS ?_
   refine xp_loopB [5, 6, 38, 39, 40, 41, 42, 43, 44, 45, 46, 47, 48, 49, 50, 51, 52, 53, 54, 55, 56, 57, 58] 2 (α := Nat) (fun k => [(5, .bool (sameN p a.joints b.joints k)), (6, .int .i64 k)]) (fun k => _) (fun k h_k => k ≤ a.joints.length) (fun k => a.joints.length - k) (0) ⟨congrArg Value.bool (sameN_zero _ _ _).symm, rfl, trivial⟩ (rfl) (Nat.zero_le _) ?_
   rintro k T3 h_k E_k J_k
   refine qU [_, _] rfl ?_
   obtain ⟨q, hq⟩ : ∃ q, sameN p a.joints b.joints k = q := ⟨_, rfl⟩
   rw [hq]
   cases q with
   | false =>
    refine qE ?_
    refine qE ?_
    refine qB rfl ?_
    refine qA (qC (v := .bool _) rfl) ?_
    refine qA (qC (v := .bool _) rfl) ?_
    refine qM rfl rfl ?_
    refine qM rfl rfl ?_
    refine qM rfl rfl ?_
    refine qM rfl rfl ?_
    refine qM rfl rfl ?_
    refine qA (wV rfl rfl (v := .bool _) rfl) ?_
    refine wM rfl (rfl) ?_
    refine wP ?_
    refine ⟨false, ⟨rfl, trivial⟩, rfl, rfl, E_k, fun h3 E3 => (sameN_no hq).symm, ?_⟩
    repeat (first | exact wX _ _ | exact qY _ _ _ | refine wE (by decide) ?_ | refine qW rfl ?_ | refine wG rfl ?_)
   | true =>
    have hpt : p = true := by cases hPP : p with | true => rfl | false => rw [hPP] at hq; cases hq
    have hlen : a.joints.length = b.joints.length := (J_p.yes hpt).2.2.1
    refine qE ?_
    refine qE ?_
    refine qB rfl ?_
    refine qA (qC (v := .bool _) rfl) ?_
    refine qA (qC (v := .bool _) rfl) ?_
    refine qJ rfl rfl ?_
    refine qA (qC (v := .int .i64 _) rfl) ?_
    refine qJ rfl rfl ?_
    refine qA (qF rfl rfl rfl rfl 2 rfl) ?_
    refine qJ rfl rfl ?_
    refine qO 0 (v := .slice _ _ _) rfl rfl rfl rfl ?_
    refine qJ rfl rfl ?_
    refine qA (wQ rfl rfl) ?_
    refine qJ rfl rfl ?_
    refine qA (qK (v := .bool _) rfl) ?_
    refine qA (wO rfl rfl (v := .bool _) rfl) ?_
    refine qV rfl (fun ht => ?_) (fun ht => ?_)
    ·skip
     have hlt : k < a.joints.length := ltI ht
     have hlt2 : k < b.joints.length := by omega
     obtain ⟨g, off, hA, hc⟩ := (Ra.joints.ext (zF E_p E_k)).at (by omega) hlt
     obtain ⟨g2, off2, hB, hc2⟩ := (Rb.joints.ext (zF E_p E_k)).at (by omega) hlt2
     refine qN ?_
     refine qE ?_
     refine qS ?_
     refine xp_dw [] rfl rfl rfl ?_
     refine qG (i := 0) rfl (by decide +kernel) (qF rfl rfl rfl rfl 2 rfl) ?_
     refine wH (i := 1) rfl (by decide +kernel) ?_
     refine qO 0 (v := .slice _ _ _) rfl rfl rfl rfl ?_
     refine qG (i := 2) rfl (by decide +kernel) (qC (v := .int .i64 _) rfl) ?_
     refine qG (i := 3) rfl (by decide +kernel) (wT rfl hA rfl rfl rfl (by omega) (by omega)) ?_
     refine wH (i := 4) rfl (by decide +kernel) ?_
     refine op_loadA rfl rfl rfl rfl (hc) ?_
     refine qG (i := 5) rfl (by decide +kernel) (qF rfl rfl rfl rfl 2 rfl) ?_
     refine wH (i := 6) rfl (by decide +kernel) ?_
     refine qO 1 (v := .slice _ _ _) rfl rfl rfl rfl ?_
     refine qG (i := 7) rfl (by decide +kernel) (qC (v := .int .i64 _) rfl) ?_
     refine qG (i := 8) rfl (by decide +kernel) (wT rfl hB rfl rfl rfl (by omega) (by omega)) ?_
     refine wH (i := 9) rfl (by decide +kernel) ?_
     refine op_loadA rfl rfl rfl rfl (hc2) ?_
     refine qG (i := 10) rfl (by decide +kernel) (pv_eqA rfl rfl (by kernel_rfl) (jointEq _ _)) ?_
     refine qG (i := 11) rfl (by decide +kernel) (qD (v := .bool _) rfl) ?_
     refine zC rfl ?_
     refine qB rfl ?_
     refine qA (qC (v := .int .i64 _) rfl) ?_
     refine qA (qR rfl (by omega)) ?_
     refine qA (qD (v := .int .i64 _) rfl) ?_
     refine ⟨k + 1, ⟨(by rw [hpt] at hq ⊢; rw [sameN_succ hlt hlt2 hq]; rfl), rfl, trivial⟩, rfl, rfl, E_k, fun h3 E3 => hlt, by first | omega | (dsimp only; omega), ?_⟩
     repeat (first | exact qY _ _ _ | refine wE (by decide) ?_ | refine qW rfl ?_ | refine wG rfl ?_)
    ·skip
     have hke : k = a.joints.length := by have := geI ht; omega
     subst hke
     refine wP ?_
     refine ⟨true, ⟨rfl, trivial⟩, rfl, rfl, E_k, fun h3 E3 => by rw [sameN_all hlen] at hq; exact hq.symm, ?_⟩
     repeat (first | exact wX _ _ | exact qY _ _ _ | refine wE (by decide) ?_ | refine qW rfl ?_ | refine wG rfl ?_)
  ·rintro u T2 h_u E_u J_u
   refine qU [_, _] rfl ?_
   refine qE ?_
   refine qE ?_
   refine qB rfl ?_
   refine qA (qD (v := .int .i64 _) rfl) ?_
   refine qS ?_
   refine xp_loopB [5, 7, 59, 60, 61, 62, 63, 64, 65, 66, 67, 68, 69, 70, 71, 72, 73, 74, 75, 76, 77, 78, 79] 2 (α := Nat) (fun k => [(5, .bool (sameN u a.reports b.reports k)), (7, .int .i64 k)]) (fun k => _) (fun k h_k => k ≤ a.reports.length) (fun k => a.reports.length - k) (0) ⟨congrArg Value.bool (sameN_zero _ _ _).symm, rfl, trivial⟩ (rfl) (Nat.zero_le _) ?_
   rintro k T4 h_k E_k J_k
   refine qU [_, _] rfl ?_
   obtain ⟨q, hq⟩ : ∃ q, sameN u a.reports b.reports k = q := ⟨_, rfl⟩
   rw [hq]
   cases q with
   | false =>
    refine qE ?_
    refine qE ?_
    refine qB rfl ?_
    refine qA (qC (v := .bool _) rfl) ?_
    refine qA (qC (v := .bool _) rfl) ?_
    refine qM rfl rfl ?_
    refine qM rfl rfl ?_
    refine qM rfl rfl ?_
    refine qM rfl rfl ?_
    refine qM rfl rfl ?_
    refine qA (wV rfl rfl (v := .bool _) rfl) ?_
    refine wM rfl (rfl) ?_
    refine wP ?_
    refine qE ?_
    refine qB rfl ?_
    refine qA (qC (v := .bool _) rfl) ?_
    refine qA (qD (v := .bool _) rfl) ?_
    refine qT ?_
    refine qL (vs := [_]) Tryz.results14 ⟨qI rfl rfl, trivial⟩ fun V => ?_
    refine ⟨(zF (zF (zF E_p E_u) E_k) (qP V)), congrArg Value.bool ?_⟩
    have e := sameN_no hq
    rw [J_u] at e
    cases hd : decide (a = b) with
    | false => rfl
    | true =>
     have := of_decide_eq_true hd
     subst this
     have hp : p = true := by cases hp : p with | true => rfl | false => exact absurd rfl (J_p.no hp)
     rw [hp] at e
     simp at e
   | true =>
    have hpt : u = true := by cases hPP : u with | true => rfl | false => rw [hPP] at hq; cases hq
    have hlen : a.reports.length = b.reports.length := (J_p.yes (by rw [J_u] at hpt; simp at hpt; exact hpt.1)).2.2.2
    refine qE ?_
    refine qE ?_
    refine qB rfl ?_
    refine qA (qC (v := .bool _) rfl) ?_
    refine qA (qC (v := .bool _) rfl) ?_
    refine qJ rfl rfl ?_
    refine qA (qC (v := .int .i64 _) rfl) ?_
    refine qJ rfl rfl ?_
    refine qA (qF rfl rfl rfl rfl 3 rfl) ?_
    refine qJ rfl rfl ?_
    refine qO 0 (v := .slice _ _ _) rfl rfl rfl rfl ?_
    refine qJ rfl rfl ?_
    refine qA (wQ rfl rfl) ?_
    refine qJ rfl rfl ?_
    refine qA (qK (v := .bool _) rfl) ?_
    refine qA (wO rfl rfl (v := .bool _) rfl) ?_
    refine qV rfl (fun ht => ?_) (fun ht => ?_)
    ·skip
     have hlt : k < a.reports.length := ltI ht
     have hlt2 : k < b.reports.length := by omega
     obtain ⟨g, off, hA, hc⟩ := (Ra.reports.ext (zF (zF E_p E_u) E_k)).at (by omega) hlt
     obtain ⟨g2, off2, hB, hc2⟩ := (Rb.reports.ext (zF (zF E_p E_u) E_k)).at (by omega) hlt2
     refine qN ?_
     refine qE ?_
     refine qS ?_
     refine xp_dw [] rfl rfl rfl ?_
     refine qG (i := 0) rfl (by decide +kernel) (qF rfl rfl rfl rfl 3 rfl) ?_
     refine wH (i := 1) rfl (by decide +kernel) ?_
     refine qO 0 (v := .slice _ _ _) rfl rfl rfl rfl ?_
     refine qG (i := 2) rfl (by decide +kernel) (qC (v := .int .i64 _) rfl) ?_
     refine qG (i := 3) rfl (by decide +kernel) (wT rfl hA rfl rfl rfl (by omega) (by omega)) ?_
     refine wH (i := 4) rfl (by decide +kernel) ?_
     refine op_loadA rfl rfl rfl rfl (hc) ?_
     refine qG (i := 5) rfl (by decide +kernel) (qF rfl rfl rfl rfl 3 rfl) ?_
     refine wH (i := 6) rfl (by decide +kernel) ?_
     refine qO 1 (v := .slice _ _ _) rfl rfl rfl rfl ?_
     refine qG (i := 7) rfl (by decide +kernel) (qC (v := .int .i64 _) rfl) ?_
     refine qG (i := 8) rfl (by decide +kernel) (wT rfl hB rfl rfl rfl (by omega) (by omega)) ?_
     refine wH (i := 9) rfl (by decide +kernel) ?_
     refine op_loadA rfl rfl rfl rfl (hc2) ?_
     refine qG (i := 10) rfl (by decide +kernel) (pv_eqA rfl rfl (by kernel_rfl) (seenEq _ _)) ?_
     refine qG (i := 11) rfl (by decide +kernel) (qD (v := .bool _) rfl) ?_
     refine zC rfl ?_
     refine qB rfl ?_
     refine qA (qC (v := .int .i64 _) rfl) ?_
     refine qA (qR rfl (by omega)) ?_
     refine qA (qD (v := .int .i64 _) rfl) ?_
     refine ⟨k + 1, ⟨(by rw [hpt] at hq ⊢; rw [sameN_succ hlt hlt2 hq]; rfl), rfl, trivial⟩, rfl, rfl, E_k, fun h3 E3 => hlt, by first | omega | (dsimp only; omega), ?_⟩
     repeat (first | exact qY _ _ _ | refine wE (by decide) ?_ | refine qW rfl ?_ | refine wG rfl ?_)
    ·skip
     have hke : k = a.reports.length := by have := geI ht; omega
     subst hke
     refine wP ?_
     refine qE ?_
     refine qB rfl ?_
     refine qA (qC (v := .bool _) rfl) ?_
     refine qA (qD (v := .bool _) rfl) ?_
     refine qT ?_
     refine qL (vs := [_]) Tryz.results14 ⟨qI rfl rfl, trivial⟩ fun V => ?_
     refine ⟨(zF (zF (zF E_p E_u) E_k) (qP V)), congrArg Value.bool ?_⟩
     rw [sameN_all hlen, J_u] at hq
     simp only [Bool.and_eq_true, decide_eq_true_eq] at hq
     obtain ⟨y1, y2, _, _⟩ := J_p.yes hq.1.1
     have : a = b := by
      obtain ⟨q1, q2, q3, q4⟩ := a
      obtain ⟨r1, r2, r3, r4⟩ := b
      simp only at y1 y2 hq
      rw [y1, y2, hq.1.2, hq.2]
     rw [decide_eq_true this]
end Go.Proofs.YtboigjfgpppeaaaGreatDoor
namespace Go.Proofs.YtboigjfgpppeaaaGreatDoor
open Go Go.HL Go.Proofs Go.Wx Go.Rd Go.RowKit
section
set_option maxRecDepth 100000
set_option maxHeartbeats 4000000 in
theorem read_calls (w : World) (l : List Int) (hl : l.length < 2 ^ 63) (A : Option Addr) (c : Nat) (R : Row (absH w.heap) 1 intC A l) (t : List UInt8) (hP : Pow (absH w.heap)) (hE : Errs (absH w.heap)) : Calls Tryz.prog 4 #[.slice A l.length c, .string (bs t)] w (fun e w' => e = .returned (.bool true) ∧ Below w.heap.size w w') := by
 letI : Lvl := ⟨false, none, none⟩
 refine calls_body Tryz.func4 rfl Tryz.ntmps4 rfl Tryz.results4 rfl fun h hh => ?_
 rw [← hh] at R hP hE
 refine qE ?_
 refine qB rfl ?_
 refine qA (qD (v := .bool _) rfl) ?_
 refine qE ?_
 refine qE ?_
 refine qB rfl ?_
 refine qA (qC (v := .string _) rfl) ?_
 refine qA (pv_strlen rfl rfl) ?_
 refine qA (qK (v := .bool _) rfl) ?_
 refine qV rfl (fun hlen => ?_) (fun hlen => ?_)
 ·skip
  refine qE ?_
  refine qB rfl ?_
  refine wI (caps := []) (vs := []) rfl rfl rfl (warm_ok h) ?_
  rintro _ h0 E0 rfl
  refine qA (qD (v := .bool _) rfl) ?_
  refine qT ?_
  exact ⟨rfl, fun V => (zF E0 (qP V)), rfl⟩
 ·skip
  refine qN ?_
  refine qE ?_
  refine qB rfl ?_
  refine qA (qC (v := .slice _ _ _) rfl) ?_
  refine op_fnMM [] [] [] rfl rfl rfl ((NewPot_ok l hl A c h (R.ext (Ext.refl _)))) ?_
  rintro _ h1 _ E1 ⟨b, x, rfl, rfl⟩
  refine qH [_] rfl ?_
  refine op_fnMM [] [_] [] (vs := _) rfl rfl rfl ((SeasonOf_ok b x 6 3 5 (by omega) (by omega) (by omega) (by omega) h1)) ?_
  rintro _ h2 _ E2 ⟨x2, s, ht, dt, fs, u, w2, rfl, rfl, ⟨A0, A1, A2, A3, c0, c1, c2, c3, rfl, RM⟩, ST, HA, hc, DA, dc, FA, fc, rfl, RK1, RK2, RK3⟩
  refine qH [_] rfl ?_
  have hck : checkM s = 0 := check_T ST (by omega) (by omega) (by omega)
  obtain ⟨N, b1, b2, b3, b4⟩ := checkM_num hck
  have hsh : (writeS s).length ≤ 500 := Nat.le_trans (writeS_len b2 b3 b4) (by decide)
  have hwv : writeSV s = .tuple #[.string (bs (writeS s)), .int .i64 0] := by unfold writeSV; rw [if_pos hck, hck]
  have hrw := readS_write hck hsh
  have SM : Small s := ⟨by omega, by omega, by omega, by omega⟩
  refine qA (qC (v := .tuple #[.agg #[.slice _ _ _, .slice _ _ _, .slice _ _ _, .slice _ _ _], .agg #[.slice _ _ _, .slice _ _ _, .slice _ _ _]]) rfl) ?_
  refine qA (qK (v := .agg #[.slice _ _ _, .slice _ _ _, .slice _ _ _, .slice _ _ _]) rfl) ?_
  refine qA (qK (v := .agg #[.slice _ _ _, .slice _ _ _, .slice _ _ _]) rfl) ?_
  refine wL (cs := [_, _, _, _]) rfl rfl fun b5 hb5 => ?_
  refine qH [_, _] rfl ?_
  refine wL (cs := [_, _, _]) rfl rfl fun b6 hb6 => ?_
  refine qH [_, _, _] rfl ?_
  refine qQ 1 (v := .agg #[.slice _ _ _, .slice _ _ _, .slice _ _ _, .slice _ _ _]) (vs := [_, _, _, _]) (c' := [_, _, _, _]) rfl rfl rfl rfl rfl rfl rfl rfl rfl ?_
  refine qH [_, _, _] rfl ?_
  refine qQ 2 (v := .agg #[.slice _ _ _, .slice _ _ _, .slice _ _ _]) (vs := [_, _, _]) (c' := [_, _, _]) rfl rfl rfl rfl rfl rfl rfl rfl rfl ?_
  refine qH [_, _, _] rfl ?_
  refine qE ?_
  refine qB rfl ?_
  refine wA 1 (vs := [.slice _ _ _, .slice _ _ _, .slice _ _ _, .slice _ _ _]) rfl rfl rfl rfl rfl ?_
  refine wI (caps := []) (vs := [.agg #[.slice _ _ _, .slice _ _ _, .slice _ _ _, .slice _ _ _]]) rfl rfl rfl (WriteS_ok s SM A0 A1 A2 A3 c0 c1 c2 c3 h2 (hP.ext (zF E1 E2)) (RM.ext (Ext.refl _))) ?_
  rintro v3 h3 E3 hv3
  rw [hwv] at hv3
  subst hv3
  refine qA (qC (v := .tuple #[.string _, .int .i64 _]) rfl) ?_
  refine qA (qK (v := .string _) rfl) ?_
  refine qA (qK (v := .int .i64 _) rfl) ?_
  refine qA (qD (v := .string _) rfl) ?_
  refine qA (qD (v := .int .i64 _) rfl) ?_
  refine qE ?_
  refine qB rfl ?_
  refine qA (qC (v := .string _) rfl) ?_
  refine wI (caps := []) (vs := [.string _]) rfl rfl rfl (ReadS_ok (writeS s) h3 (hP.ext (zF (zF E1 E2) E3)) (hE.ext (zF (zF E1 E2) E3))) ?_
  rintro v4 h4 E4 ⟨V4, hv4, MV4⟩
  rw [hrw] at hv4 MV4
  obtain ⟨B0, B1, B2, B3, d0, d1, d2, d3, rfl, RM4⟩ := MV4
  subst hv4
  refine qA (qC (v := .tuple #[.agg #[.slice _ _ _, .slice _ _ _, .slice _ _ _, .slice _ _ _], .int .i64 _, .int .i64 _]) rfl) ?_
  refine qA (qK (v := .agg #[.slice _ _ _, .slice _ _ _, .slice _ _ _, .slice _ _ _]) rfl) ?_
  refine qA (qK (v := .int .i64 _) rfl) ?_
  refine qA (qK (v := .int .i64 _) rfl) ?_
  refine wL (cs := [_, _, _, _]) rfl rfl fun b9 hb9 => ?_
  refine qH [_, _, _, _] rfl ?_
  refine qQ 3 (v := .agg #[.slice _ _ _, .slice _ _ _, .slice _ _ _, .slice _ _ _]) (vs := [_, _, _, _]) (c' := [_, _, _, _]) rfl rfl rfl rfl rfl rfl rfl rfl rfl ?_
  refine qH [_, _, _, _] rfl ?_
  refine qA (qD (v := .int .i64 _) rfl) ?_
  refine qA (qD (v := .int .i64 _) rfl) ?_
  refine qE ?_
  refine qE ?_
  refine qB rfl ?_
  refine qA (qC (v := .int .i64 _) rfl) ?_
  refine qA (qK (v := .bool _) rfl) ?_
  refine qA (qC (v := .bool _) rfl) ?_
  refine qJ rfl rfl ?_
  refine qA (qC (v := .int .i64 _) rfl) ?_
  refine qJ rfl rfl ?_
  refine qA (qK (v := .bool _) rfl) ?_
  refine qA (wV rfl rfl (v := .bool _) rfl) ?_
  refine qA (qC (v := .bool _) rfl) ?_
  refine qJ rfl rfl ?_
  refine qA (qC (v := .int .i64 _) rfl) ?_
  refine qJ rfl rfl ?_
  refine qA (qK (v := .bool _) rfl) ?_
  refine qA (wV rfl rfl (v := .bool _) rfl) ?_
  refine qA (qC (v := .bool _) rfl) ?_
  refine qJ rfl rfl ?_
  refine wA 1 (vs := [.slice _ _ _, .slice _ _ _, .slice _ _ _, .slice _ _ _]) rfl rfl rfl rfl rfl ?_
  refine qJ rfl rfl ?_
  refine wA 3 (vs := [.slice _ _ _, .slice _ _ _, .slice _ _ _, .slice _ _ _]) rfl rfl rfl rfl rfl ?_
  refine qJ rfl rfl ?_
  refine wI (caps := []) (vs := [.agg #[.slice _ _ _, .slice _ _ _, .slice _ _ _, .slice _ _ _], .agg #[.slice _ _ _, .slice _ _ _, .slice _ _ _, .slice _ _ _]]) rfl rfl rfl (sameSeasons_ok s s A0 A1 A2 A3 B0 B1 B2 B3 c0 c1 c2 c3 d0 d1 d2 d3 h4 (RM.ext (zF E3 E4)) (RM4.ext (Ext.refl _)) SM.h0 SM.h1 SM.h2 SM.h3) ?_
  rintro v5 h5 E5 hv5
  rw [decide_eq_true (rfl : s = s)] at hv5
  subst hv5
  refine qJ rfl rfl ?_
  refine qA (qK (v := .bool _) rfl) ?_
  refine qA (wV rfl rfl (v := .bool _) rfl) ?_
  refine wM rfl (rfl) ?_
  refine qN ?_
  refine qE ?_
  refine qB rfl ?_
  refine qA (qC (v := .string _) rfl) ?_
  refine wI (caps := []) (vs := [.string _]) rfl rfl rfl (ReadS_ok t h5 (hP.ext (zF (zF (zF (zF E1 E2) E3) E4) E5)) (hE.ext (zF (zF (zF (zF E1 E2) E3) E4) E5))) ?_
  rintro v6 h6 E6 ⟨V6, hv6, MV6⟩
  obtain ⟨s6, row6, e6, hr6⟩ : ∃ s6 row6 e6, readS t = (s6, row6, e6) := ⟨_, _, _, rfl⟩
  rw [hr6] at hv6 MV6
  obtain ⟨C0, C1, C2, C3, g0, g1, g2, g3, rfl, RM6⟩ := MV6
  subst hv6
  refine qA (qC (v := .tuple #[.agg #[.slice _ _ _, .slice _ _ _, .slice _ _ _, .slice _ _ _], .int .i64 _, .int .i64 _]) rfl) ?_
  refine qA (qK (v := .agg #[.slice _ _ _, .slice _ _ _, .slice _ _ _, .slice _ _ _]) rfl) ?_
  refine qA (qK (v := .int .i64 _) rfl) ?_
  refine qA (qK (v := .int .i64 _) rfl) ?_
  refine wL (cs := [_, _, _, _]) rfl rfl fun b12 hb12 => ?_
  refine qH [_, _, _, _, _] rfl ?_
  refine qQ 4 (v := .agg #[.slice _ _ _, .slice _ _ _, .slice _ _ _, .slice _ _ _]) (vs := [_, _, _, _]) (c' := [_, _, _, _]) rfl rfl rfl rfl rfl rfl rfl rfl rfl ?_
  refine qH [_, _, _, _, _] rfl ?_
  refine qA (qD (v := .int .i64 _) rfl) ?_
  refine qA (qD (v := .int .i64 _) rfl) ?_
  refine qE ?_
  refine qE ?_
  refine qB rfl ?_
  refine qA (qC (v := .int .i64 _) rfl) ?_
  refine qA (qK (v := .bool _) rfl) ?_
  refine qV rfl (fun he => ?_) (fun he => ?_)
  ·skip
   refine qE ?_
   refine qB rfl ?_
   refine wI (caps := []) (vs := []) rfl rfl rfl (warm_ok h6) ?_
   rintro _ h7 E7 rfl
   refine qA (qD (v := .bool _) rfl) ?_
   refine qT ?_
   exact ⟨rfl, fun V => (zF (zF (zF (zF (zF (zF (zF E1 E2) E3) E4) E5) E6) E7) (qP V)), rfl⟩
  ·skip
   have he' : e6 = 0 := by simpa using he
   subst he'
   obtain ⟨hc6, hw6⟩ := write_readS hr6
   obtain ⟨N6, y1, y2, y3, y4⟩ := checkM_num hc6
   have SM6 : Small s6 := ⟨by omega, by omega, by omega, by omega⟩
   have hwv6 : writeSV s6 = .tuple #[.string (bs t), .int .i64 0] := by unfold writeSV; rw [if_pos hc6, hc6, hw6]
   refine qN ?_
   refine qE ?_
   refine qB rfl ?_
   refine wA 4 (vs := [.slice _ _ _, .slice _ _ _, .slice _ _ _, .slice _ _ _]) rfl rfl rfl rfl rfl ?_
   refine wI (caps := []) (vs := [.agg #[.slice _ _ _, .slice _ _ _, .slice _ _ _, .slice _ _ _]]) rfl rfl rfl (WriteS_ok s6 SM6 C0 C1 C2 C3 g0 g1 g2 g3 h6 (hP.ext (zF (zF (zF (zF (zF E1 E2) E3) E4) E5) E6)) (RM6.ext (Ext.refl _))) ?_
   rintro v8 h8 E8 hv8
   rw [hwv6] at hv8
   subst hv8
   refine qA (qC (v := .tuple #[.string _, .int .i64 _]) rfl) ?_
   refine qA (qK (v := .string _) rfl) ?_
   refine qA (qK (v := .int .i64 _) rfl) ?_
   refine qA (qD (v := .string _) rfl) ?_
   refine qA (qD (v := .int .i64 _) rfl) ?_
   refine qE ?_
   refine qB rfl ?_
   refine qA (qC (v := .int .i64 _) rfl) ?_
   refine qA (qK (v := .bool _) rfl) ?_
   refine qA (qC (v := .bool _) rfl) ?_
   have hg7 : decide (t = t) = true := decide_eq_true rfl
   refine qJ rfl rfl ?_
   refine qA (qC (v := .string _) rfl) ?_
   refine qJ rfl rfl ?_
   refine qA (qC (v := .string _) rfl) ?_
   refine qJ rfl rfl ?_
   refine qA (pv_streq rfl rfl) ?_
   refine qA (wO rfl rfl (v := .bool _) rfl) ?_
   refine qA (qC (v := .bool _) rfl) ?_
   refine qJ rfl hg7 ?_
   refine wI (caps := []) (vs := []) rfl rfl rfl (warm_ok h8) ?_
   rintro _ h9 E9 rfl
   refine qA (wO rfl hg7 (v := .bool _) rfl) ?_
   refine qA (qD (v := .bool _) rfl) ?_
   refine qT ?_
   exact ⟨rfl, fun V => (zF (zF (zF (zF (zF (zF (zF (zF E1 E2) E3) E4) E5) E6) E8) E9) (qP V)), rfl⟩
end
end Go.Proofs.YtboigjfgpppeaaaGreatDoor
namespace Go.HL
open Go Go.Wx Go.RowKit Go.ChangeShapes Go.WideShapes
variable [Lvl]
section
variable {H : Type} {enc : TypeId × Value → H} {P : Program} {w : World} {base : Nat} {spare : Nat → Bool} {held : Bool}
theorem row_slice {α : Type} (en : α → List Value) {t e : TypeId} {m fuel : Nat} {cs : List Value} {x : DataW H × List MemPlace} (ht : P.underlying t = some (.slice e)) (hc : P.cellsOf e = m) (hm : 0 < m) (he : ∀ a, (en a).length = m)
  (leaf : ∀ n cs x, DataW.trod enc P w base spare held n e cs = some x → ∃ a, cs = en a) (h : DataW.trod enc P w base spare held fuel t cs = some x) :
  ∃ (A : Option Addr) (len cap : Nat) (l : List α), cs = [.slice A len cap] ∧ l.length = len ∧ Row (absH w.heap) m en A l ∧ len ≤ maxLen := by
 rcases Go.Deep.open_slice ht h with ⟨rfl, _⟩ | ⟨a, len, cap, mm, n, D, Pl, rfl, hb, hl, hmx, hmm, _, hel⟩
 ·exact ⟨none, 0, 0, [], rfl, rfl, ⟨fun _ h => (by cases h), Rd.nil _ _⟩, Nat.zero_le _⟩
 ·have hlm : len ≤ mm := by rw [hmm]; split <;> omega
  have key : ∀ i : _root_.Fin len, ∃ v : α, w.cells? base (a.add (i.val * m)) m = some (en v) := by
   intro i
   obtain ⟨cs', h1, h2⟩ := hel i.val (by have := i.isLt; omega)
   obtain ⟨v, rfl⟩ := leaf _ _ _ h2
   rw [hc] at h1
   exact ⟨v, h1⟩
  let l := List.ofFn fun i : _root_.Fin len => Classical.choose (key i)
  have hll : l.length = len := by simp [l]
  have hat : ∀ (i : Nat) (hi : i < l.length), w.cells? base (a.add (i * m)) m = some (en l[i]) := by
   intro i hi
   have := Classical.choose_spec (key ⟨i, by omega⟩)
   simpa [l] using this
  refine ⟨some a, len, cap, l, rfl, hll, ⟨fun x _ => he x, fun hne => ?_⟩, by omega⟩
  have hpos : 0 < l.length := by
   rcases Nat.eq_zero_or_pos l.length with h0 | h0
   ·rw [List.eq_nil_of_length_eq_zero h0] at hne; simp at hne
   ·exact h0
  obtain ⟨g, off, sp⟩ := a
  have h0 := hat 0 hpos
  obtain ⟨_, _, hcell⟩ := World.cells?_some h0
  have h00 := hcell 0 hm
  rw [Go.Deep.add_add, Nat.zero_mul, Nat.add_zero, List.getElem?_eq_getElem (by rw [he]; exact hm)] at h00
  have hsp : sp = none := by
   cases sp with
   | none => rfl
   | some s =>
    exfalso
    have : w.cell? ((⟨g, off, some s⟩ : Addr).add 0) = none := by
     simp only [Addr.add]
     rw [cell_abs]
     unfold cellA
     split <;> simp
    rw [this] at h00
    cases h00
  subst hsp
  refine ⟨g, off, rfl, fun j u hu => ?_⟩
  have hj : j < l.length * m := by
   have := (List.getElem?_eq_some_iff.1 hu).1
   rwa [wN (fun x _ => he x)] at this
  have hi : j / m < l.length := Nat.div_lt_of_lt_mul (by rw [Nat.mul_comm]; exact hj)
  have hr : j % m < m := Nat.mod_lt _ hm
  have hjm : j / m * m + j % m = j := by rw [Nat.mul_comm]; exact Nat.div_add_mod j m
  obtain ⟨_, _, hcl⟩ := World.cells?_some (hat (j / m) hi)
  have h1 := hcl (j % m) hr
  have h2 : (en l[j / m])[j % m]? = some ((en l[j / m])[j % m]'(by rw [he]; exact hr)) := List.getElem?_eq_getElem _
  have h3 := flat_get en m l (fun x _ => he x) (j / m) _ (List.getElem?_eq_getElem hi) (j % m) _ h2
  rw [hjm, hu] at h3
  rw [h2, ← h3, Go.Deep.add_add, hjm, cell_abs, add_none] at h1
  exact h1
end
end Go.HL
namespace Go.Proofs.YtboigjfgpppeaaaGreatDoor
open Go Go.HL Go.Wx Go.RowKit Go.ChangeShapes Go.WideShapes
variable [Lvl]
set_option maxRecDepth 100000
theorem cells3 : Tryz.prog.cellsOf 3 = 1 := by kernel_rfl
section
variable {H : Type} {enc : TypeId × Value → H} {w : World} {base : Nat} {spare : Nat → Bool} {held : Bool}
theorem int_leaf {n : Nat} {cs : List Value} {x : DataW H × List MemPlace} (h : DataW.trod enc Tryz.prog w base spare held n 3 cs = some x) : ∃ z : Int, cs = [.int .i64 z] := by
 obtain ⟨z, e, _⟩ := DataW.trod_int Tryz.underlying3 h
 exact ⟨z, e⟩
theorem ints_in {r : Reach} {b0 : Nat} {v : Value} {d : DataW H} {p : List MemPlace} (hv : Value.okWide Tryz.prog w r b0 27 v) (h : DataW.Trod enc Tryz.prog w base spare held 27 v d p) :
  ∃ (l : List Int) (A : Option Addr) (c : Nat), v = .slice A l.length c ∧ Row (absH w.heap) 1 intC A l ∧ l.length ≤ maxLen := by
 obtain ⟨a0, len0, cap0, rfl⟩ := okWide_slice Tryz.underlying27 hv
 obtain ⟨fuel, hf⟩ := h
 obtain ⟨A, n, c, l, e, k, R, hm⟩ := row_slice intC Tryz.underlying27 cells3 (by omega) (fun _ => rfl) (fun _ _ _ => int_leaf) hf
 have hcs : (Value.slice a0 len0 cap0).cells.toList = [.slice a0 len0 cap0] := rfl
 rw [hcs] at e
 simp at e
 obtain ⟨rfl, rfl, rfl⟩ := e
 subst k
 exact ⟨l, _, _, rfl, R, hm⟩
end
end Go.Proofs.YtboigjfgpppeaaaGreatDoor
