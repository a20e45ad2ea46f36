/- An own logic over the model, its walks and its plain laws, joined of parts R20 R21 U Uc Rp R23 R29 R30 R31 Rq R32 R25 R26 R33 R53 R34 R35 R36 R37 R38 R39 Rt R40 R41 R42 Ru R54 Z4 Z5 R55 X8 R57 R22 Ud R56. Conditions: as each theorem states. -/
import Derived.Test.YtmpahfdiebhdbaaGreatDoorLa6
import Derived.Test.YtmpahfdiebhdbaaGreatDoorLa4
import Derived.Test.YtmpahfdiebhdbaaGreatDoorLa1
import Derived.Test.YtmpahfdiebhdbaaGreatDoorLa2
import Derived.Conc.LeavingOf
import Derived.Test.YtmpahfdiebhdbaaGreatDoorLa5
import Derived.Test.YtmpahfdiebhdbaaGreatDoorLa3
import Derived.Test.YtmpahfdiebhdbaaGreatDoorRows
import Derived.Deep.Slices
import Derived.ProofKit
set_option linter.all false
namespace Go.Proofs.YtmpahfdiebhdbaaGreatDoor
open Go Go.HL Go.Proofs Go.Wx Go.Rd
section
variable [Lvl]
set_option maxRecDepth 100000
theorem tmod_gt (x : Int) {n : Int} (hn : 0 < n) : -n < x.tmod n := by
 by_cases h : 0 ≤ x
 ·have := Int.tmod_nonneg n h; omega
 ·obtain ⟨y, rfl⟩ : ∃ y, x = -y := ⟨-x, by omega⟩
  rw [Int.neg_tmod]
  have := Int.tmod_lt_of_pos y hn
  omega
def turnI (x n : Int) : Int := if n < 2 then 0 else (x.tmod n + n).tmod n
theorem turnI_bd (x n : Int) : 0 ≤ turnI x n ∧ (1 ≤ n → turnI x n < n) := by
 unfold turnI
 split
 ·omega
 ·rename_i h
  have h1 : -n < x.tmod n := tmod_gt x (by omega)
  have h2 : 0 ≤ x.tmod n + n := by omega
  exact ⟨Int.tmod_nonneg n h2, fun _ => Int.tmod_lt_of_pos _ (by omega)⟩
theorem turnI_ne {f d n : Int} (hn : 2 ≤ n) (h0 : 0 ≤ f ∧ f < n) (hd : 1 ≤ d ∧ d < n) : turnI (f + d) n ≠ f := by
 unfold turnI
 rw [if_neg (by omega)]
 rw [Int.tmod_eq_emod_of_nonneg (by omega : 0 ≤ f + d), Int.tmod_eq_emod_of_nonneg (by have := Int.emod_nonneg (f + d) (by omega : n ≠ 0); omega)]
 rw [Int.add_emod_right, Int.emod_emod]
 intro e
 by_cases h : f + d < n
 ·rw [Int.emod_eq_of_lt (by omega) h] at e; omega
 ·have : (f + d) % n = f + d - n := by
   rw [← Int.sub_emod_right (f + d) n, Int.emod_eq_of_lt (by omega) (by omega)]
  omega
theorem Turn_ok (x n : Int) (hn : n ≤ 2 ^ 40) (h : AH) : FnT Tryz.prog 28 #[.int .i64 x, .int .i64 n] h (fun v _ => v = .int .i64 (turnI x n)) := by
 refine wH Tryz.func28 rfl Tryz.ntmps28 rfl ?_
 refine qE ?_
 refine qB rfl ?_
 refine qA (qD (v := .int .i64 _) rfl) ?_
 refine qE ?_
 refine qE ?_
 refine qB rfl ?_
 refine qA (qC (v := .int .i64 _) rfl) ?_
 refine qA (qK (v := .bool _) rfl) ?_
 refine qP rfl (fun ht => ?_) (fun ht => ?_)
 ·skip
  have ht' : n < 2 := of_decide_eq_true ht
  refine qE ?_
  refine qB rfl ?_
  refine qA (qD (v := .int .i64 _) rfl) ?_
  refine qQ ?_
  refine qM (vs := [_]) Tryz.results28 ⟨qJ rfl rfl, trivial⟩ fun V => ?_
  exact ⟨(qR V), intE (by rw [turnI, if_pos ht'])⟩
 ·skip
  have ht' : ¬ n < 2 := of_decide_eq_false ht
  have h1 : -n < x.tmod n := tmod_gt x (by omega)
  have h2 : x.tmod n < n := Int.tmod_lt_of_pos _ (by omega)
  refine qO ?_
  refine qE ?_
  refine qB rfl ?_
  refine qA (qC (v := .int .i64 _) rfl) ?_
  refine qA (qC (v := .int .i64 _) rfl) ?_
  refine qA (pv_remT rfl rfl (by omega)) ?_
  refine qA (qC (v := .int .i64 _) rfl) ?_
  refine qA (qS rfl (by omega)) ?_
  refine qA (qC (v := .int .i64 _) rfl) ?_
  refine qA (pv_remT rfl rfl (by omega)) ?_
  refine qA (qD (v := .int .i64 _) rfl) ?_
  refine qQ ?_
  refine qM (vs := [_]) Tryz.results28 ⟨qJ rfl rfl, trivial⟩ fun V => ?_
  exact ⟨(qR V), intE (by rw [turnI, if_neg ht'])⟩
structure Made (size pins links : Int) (m : MachP) : Prop where
 ok : MOK m
 rs : m.rods ≤ size
 ls : m.levers ≤ size
 bl : m.buttons.length ≤ 3
 pl : (m.pins.length : Int) ≤ pins
 ll : (m.links.length : Int) ≤ links
theorem mem_one {α : Type} {P : α → Prop} {l : List α} {z : α} (h : ∀ x ∈ l, P x) (hz : P z) : ∀ x ∈ l ++ [z], P x := fun x hx => by
 rcases List.mem_append.1 hx with hx | hx
 ·exact h x hx
 ·simp at hx; subst hx; exact hz
def CapM (v : Value) : Prop := ∀ AB AQ AL AW cB cQ cL cW m, v = machV AB AQ AL AW cB cQ cL cW m → m.pins.length ≤ cQ ∧ m.links.length ≤ cL
theorem capM_of {z1 z2 z3 z4 z5 zB zW : Value} {A A' : Option Addr} {n n' c c' : Nat} (h : n ≤ c) (h' : n' ≤ c') : CapM (.agg #[z1, z2, z3, z4, z5, zB, .slice A n c, .slice A' n' c', zW]) := by
 intro AB AQ AL AW cB cQ cL cW m e
 simp only [machV, Value.agg.injEq, Array.mk.injEq, List.cons.injEq, Value.slice.injEq] at e
 obtain ⟨_, _, _, _, _, _, ⟨_, e1, e2⟩, ⟨_, e3, e4⟩, _⟩ := e
 omega
set_option maxHeartbeats 8000000 in
theorem MachineOf_okC (b x : Nat) (size pins links : Int) (hs : 1 ≤ size ∧ size ≤ 6) (hp : 0 ≤ pins ∧ pins ≤ 8) (hl : 0 ≤ links ∧ links ≤ 4) (h : AH) :
  FnM Tryz.prog (.func (.func 7) #[] ([] : List Value).toArray) [.pointer (some ⟨b, 0, none⟩), .int .i64 size, .int .i64 pins, .int .i64 links] h [some (b, .cells #[.int .u64 (x : Int)] 70 (0, 0))]
  (fun v h' M' => ∃ (x' : Nat) (m : MachP), M' = [some (b, .cells #[.int .u64 (x' : Int)] 70 (0, 0))] ∧ MachV h' m v ∧ Made size pins links m ∧ CapM v) := by
 refine fnM_body rfl rfl Tryz.func7 rfl Tryz.ntmps7 rfl ?_
 refine qE ?_
 refine qB rfl ?_
 refine zE (cs := [_, _, _, _, _, _, _, _, _]) rfl rfl fun b8 hb8 => ?_
 refine qN [_, _] rfl ?_
 refine qE ?_
 refine qB rfl ?_
 refine qA (qC (v := .pointer (some ⟨b, 0, none⟩)) rfl) ?_
 refine qA (qC (v := .int .i64 _) rfl) ?_
 refine qA (pv_min rfl rfl) ?_
 refine op_fnMM [] [_] [_] (vs := [.pointer _, .int .i64 _, .int .i64 _]) rfl rfl rfl ((Within_ok b x 1 (min size 6) (by omega) (by omega) (by omega) h)) ?_
 rintro _ h1 _ E1 ⟨x1, r, rfl, rfl, r1, r2⟩
 refine qN [_, _] rfl ?_
 refine qA (qC (v := .pointer (some ⟨b, 0, none⟩)) rfl) ?_
 refine qA (qC (v := .int .i64 _) rfl) ?_
 refine qA (pv_min rfl rfl) ?_
 refine op_fnMM [] [_] [_] (vs := [.pointer _, .int .i64 _, .int .i64 _]) rfl rfl rfl ((Within_ok b x1 1 (min size 6) (by omega) (by omega) (by omega) h1)) ?_
 rintro _ h2 _ E2 ⟨x2, v, rfl, rfl, v1, v2⟩
 refine qN [_, _] rfl ?_
 refine qA (qC (v := .pointer (some ⟨b, 0, none⟩)) rfl) ?_
 refine op_fnMM [] [_] [_] (vs := [.pointer _, .int .i64 _]) rfl rfl rfl ((Upto_ok b x2 2 (by omega) h2)) ?_
 rintro _ h3 _ E3 ⟨x3, g, rfl, rfl, g1, g2⟩
 refine qN [_, _] rfl ?_
 refine qA (qC (v := .pointer (some ⟨b, 0, none⟩)) rfl) ?_
 refine op_fnMM [] [_] [_] (vs := [.pointer _, .int .i64 _, .int .i64 _]) rfl rfl rfl ((Within_ok b x3 2 12 (by omega) (by omega) (by omega) h3)) ?_
 rintro _ h4 _ E4 ⟨x4, t, rfl, rfl, t1, t2⟩
 refine qN [_, _] rfl ?_
 refine qA (zC (zc := [_, _, _, _, _, _, _, _, _]) (vs := [(0, .int .i64 _), (1, .int .i64 _), (2, .int .i64 _), (3, .int .i64 _)]) (cs := [_, _, _, _, _, _, _, _, _]) rfl rfl rfl rfl rfl rfl) ?_
 refine zE (cs := [_, _, _, _, _, _, _, _, _]) rfl rfl fun b9 hb9 => ?_
 refine qN [_, _, _] rfl ?_
 refine qY 2 (v := .agg #[.int .i64 _, .int .i64 _, .int .i64 _, .int .i64 _, .int .i64 _, .slice _ _ _, .slice _ _ _, .slice _ _ _, .slice _ _ _]) (vs := [_, _, _, _, _, _, _, _, _]) (c' := [_, _, _, _, _, _, _, _, _]) rfl rfl rfl rfl rfl rfl rfl rfl rfl ?_
 refine qN [_, _, _] rfl ?_
 refine qE ?_
 refine qB rfl ?_
 refine qA (qC (v := .pointer (some ⟨b, 0, none⟩)) rfl) ?_
 refine qA (qG rfl rfl rfl rfl 3 rfl) ?_
 refine qL 2 (v := .int .i64 _) rfl rfl rfl rfl ?_
 refine qA (pv_quoT (c := t / 3) rfl rfl (by omega) (Int.tdiv_eq_ediv_of_nonneg (by omega)) (by omega)) ?_
 refine qA (pv_max rfl rfl) ?_
 refine op_fnMM [] [_] [_, _] (vs := [.pointer _, .int .i64 _, .int .i64 _]) rfl rfl rfl ((Within_ok b x4 1 (max 1 (t / 3)) (by omega) (by omega) (by omega) h4)) ?_
 rintro _ h5 _ E5 ⟨x5, o, rfl, rfl, o1, o2⟩
 refine qN [_, _, _] rfl ?_
 refine qA (qG rfl rfl rfl rfl 4 rfl) ?_
 refine qY 2 (v := .int .i64 _) (vs := [_]) (c' := [_, _, _, _, _, _, _, _, _]) rfl rfl rfl rfl rfl rfl rfl rfl rfl ?_
 refine qN [_, _, _] rfl ?_
 refine goes_more ?_
 refine qU [_, _, _, _] rfl ?_
 refine goes_more ?_
 refine qU [_, _, _, _, _] rfl ?_
 refine goes_more ?_
 refine qU [_, _, _, _, _, _] rfl ?_
 refine goes_more ?_
 refine qU [_, _, _, _, _, _, _] rfl ?_
 refine qE ?_
 refine qE ?_
 refine qB rfl ?_
 refine qA (qC (v := .pointer (some ⟨b, 0, none⟩)) rfl) ?_
 refine op_fnMM [] [_] [_, _, _, _, _, _] (vs := [.pointer _, .int .i64 _]) rfl rfl rfl ((Upto_ok b x5 3 (by omega) h5)) ?_
 rintro _ h6 _ E6 ⟨x6, i0, rfl, rfl, i01, i02⟩
 refine qN [_, _, _, _, _, _, _] rfl ?_
 refine qA (qD (v := .int .i64 _) rfl) ?_
 refine qT ?_
 refine xp_loopL [10, 37, 38, 39, 40, 41, 42, 43, 44, 45, 46, 47, 48, 49, 50] 7 (α := Int × Nat × List Int × Acc) (fun ⟨i, y, bs, a⟩ => [(10, .int .i64 i)]) (fun ⟨i, y, bs, a⟩ L => ((L.set 0 (some (b, .cells #[.int .u64 (y : Int)] 70 (0, 0)))).set 2 (some (b9, .cells #[.int .i64 r, .int .i64 v, .int .i64 g, .int .i64 t, .int .i64 o, .slice a.A a.n a.c, .slice none 0 0, .slice none 0 0, .slice none 0 0] 26 (0, 0)))).set 3 (a.p)) (fun ⟨i, y, bs, a⟩ h_i => (0 ≤ i ∧ i + bs.length ≤ 3) ∧ (∀ z ∈ bs, 0 ≤ z ∧ z < r) ∧ AccR 3 1 (bs.flatMap intC) a) (fun ⟨i, y, bs, a⟩ => i.toNat) ((i0, x6, [], acc0)) ⟨rfl, trivial⟩ (rfl) (⟨⟨by omega, by simp; omega⟩, fun _ hz => absurd hz List.not_mem_nil, accR0⟩) ?_
 rintro ⟨i, y, bs, a⟩ T1 h_i E_i J_i
 refine qU [_, _, _, _, _, _, _] rfl ?_
 obtain ⟨⟨K1, K2⟩, K3, KA⟩ := J_i
 refine qE ?_
 refine qE ?_
 refine qB rfl ?_
 refine qA (qC (v := .int .i64 _) rfl) ?_
 refine qA (qK (v := .bool _) rfl) ?_
 refine qP rfl (fun ht => ?_) (fun ht => ?_)
 ·skip
  have hi : 0 < i := of_decide_eq_true ht
  refine qO ?_
  refine qE ?_
  refine qT ?_
  refine xp_dw [true, false, false, false, false, false, false] rfl rfl rfl ?_
  refine qI (i := 0) rfl (by decide +kernel) (qG rfl rfl rfl rfl 5 rfl) ?_
  refine wE (i := 1) rfl (by decide +kernel) ?_
  refine qL 2 (v := .slice _ _ _) rfl rfl rfl rfl ?_
  refine qI (i := 2) rfl (by decide +kernel) (qC (v := .pointer (some ⟨b, 0, none⟩)) rfl) ?_
  refine qI (i := 3) rfl (by decide +kernel) (qG rfl rfl rfl rfl 0 rfl) ?_
  refine wE (i := 4) rfl (by decide +kernel) ?_
  refine qL 2 (v := .int .i64 _) rfl rfl rfl rfl ?_
  refine qI (i := 5) rfl (by decide +kernel) (qS rfl (by omega)) ?_
  refine dw_eff (i := 6) rfl (by decide +kernel) ?_
  refine op_fnMM [] [_] [_, _, _, _, _, _] (vs := [.pointer _, .int .i64 _]) rfl rfl rfl ((Upto_ok b y (r - 1) (by omega) h_i)) ?_
  rintro _ h7 _ E7 ⟨y2, z, rfl, rfl, z1, z2⟩
  refine ⟨ext_wlm E7 _, ?_⟩
  refine wN [_, _, _, _, _, _, _] rfl ?_
  refine dw_eff (i := 7) rfl (by decide +kernel) ?_
  refine qX (zc := [_]) (vs := [(0, .int .i64 _)]) (cs := [_]) rfl rfl rfl rfl rfl rfl rfl fun b48 hb48 => ?_
  refine ⟨ext_newM hb48 _, ?_⟩
  refine wN [_, _, _, _, _, _, _, _] rfl ?_
  refine wV (i := 8) rfl (by decide +kernel) (by decide +kernel) ?_
  refine zA 3 KA rfl rfl rfl (fun V => rdP V (i := 7) rfl) rfl rfl rfl rfl rfl rfl rfl rfl rfl (by omega) rfl (by rw [wU (m := 1) (fun _ _ => rfl)]; simp; omega) fun a2 h2a E2a ha2 => ?_
  refine wN [_, _, _, _, _, _, _, _] rfl ?_
  refine qI (i := 9) rfl (by decide +kernel) (qG rfl rfl rfl rfl 5 rfl) ?_
  refine wV (i := 10) rfl (by decide +kernel) (by decide +kernel) ?_
  refine qY 2 (v := .slice _ _ _) (vs := [_]) (c' := [_, _, _, _, _, _, _, _, _]) rfl rfl rfl rfl rfl rfl rfl rfl rfl ?_
  refine wN [_, _, _, _, _, _, _, _] rfl ?_
  refine zI rfl ?_
  refine qB rfl ?_
  refine qA (qC (v := .int .i64 _) rfl) ?_
  refine qA (qS rfl (by omega)) ?_
  refine qA (qD (v := .int .i64 _) rfl) ?_
  refine ⟨(i - 1, y2, bs ++ [z], a2), ⟨rfl, trivial⟩, rfl, rfl, (zL (zL E_i E7) E2a), fun h3 E3 => ⟨⟨by omega, by simp; omega⟩, mem_one K3 ⟨z1, by omega⟩, by rw [List.flatMap_append]; exact ha2⟩, by first | omega | (dsimp only; omega), ?_⟩
  repeat (first | exact qW _ _ _ | refine wA (by decide) ?_ | refine qV rfl ?_ | refine wB rfl ?_)
 ·skip
  have hi0 : i = 0 := by have := of_decide_eq_false ht; omega
  obtain ⟨pB, AB, nB, cB⟩ := a
  obtain rfl : nB = bs.length := by have := AccR.len KA; rw [wU (m := 1) (fun _ _ => rfl)] at this; dsimp only at this; omega
  dsimp only at *
  refine goes_pubO 3 rfl ?_
  intro gB GB PB
  refine qU [_, _, _, _, _, _, _] rfl ?_
  have RB : Row gB 1 intC AB bs := ⟨fun _ _ => rfl, AccR.rd KA PB⟩
  refine wS ?_
  refine qE ?_
  refine qE ?_
  refine qB rfl ?_
  refine qA (qC (v := .pointer (some ⟨b, 0, none⟩)) rfl) ?_
  refine qA (qC (v := .int .i64 _) rfl) ?_
  refine op_fnMM [] [_] [_, _, _, _, _, _] (vs := [.pointer _, .int .i64 _]) rfl rfl rfl ((Upto_ok b y pins (by omega) gB)) ?_
  rintro _ h8 _ E8 ⟨x8, j0, rfl, rfl, j01, j02⟩
  refine qN [_, _, _, _, _, _, _] rfl ?_
  refine qA (qD (v := .int .i64 _) rfl) ?_
  refine qT ?_
  refine xp_loopL [11, 54, 55, 56, 57, 58, 59, 60, 61, 62, 63, 64, 65, 66, 67, 68, 69, 70, 71, 72, 73, 74, 75, 76, 77, 78] 7 (α := Int × Nat × List PinP × Acc) (fun ⟨j, y, qs, a⟩ => [(11, .int .i64 j)]) (fun ⟨j, y, qs, a⟩ L => ((L.set 0 (some (b, .cells #[.int .u64 (y : Int)] 70 (0, 0)))).set 2 (some (b9, .cells #[.int .i64 r, .int .i64 v, .int .i64 g, .int .i64 t, .int .i64 o, .slice AB bs.length cB, .slice a.A a.n a.c, .slice none 0 0, .slice none 0 0] 26 (0, 0)))).set 4 (a.p)) (fun ⟨j, y, qs, a⟩ h_j => (0 ≤ j ∧ j + qs.length ≤ pins) ∧ (∀ p ∈ qs, (0 ≤ p.rod ∧ p.rod < r) ∧ (0 ≤ p.lever ∧ p.lever < v) ∧ (0 ≤ p.lag ∧ p.lag ≤ t)) ∧ AccR 65 3 (qs.flatMap pinC) a) (fun ⟨j, y, qs, a⟩ => j.toNat) ((j0, x8, [], acc0)) ⟨rfl, trivial⟩ (rfl) (⟨⟨by omega, by simp; omega⟩, fun _ hz => absurd hz List.not_mem_nil, accR0⟩) ?_
  rintro ⟨j, y, qs, a⟩ T3 h_j E_j J_j
  refine qU [_, _, _, _, _, _, _] rfl ?_
  obtain ⟨⟨L1, L2⟩, L3, KA⟩ := J_j
  refine qE ?_
  refine qE ?_
  refine qB rfl ?_
  refine qA (qC (v := .int .i64 _) rfl) ?_
  refine qA (qK (v := .bool _) rfl) ?_
  refine qP rfl (fun hu => ?_) (fun hu => ?_)
  ·skip
   have hj : 0 < j := of_decide_eq_true hu
   refine qO ?_
   refine qE ?_
   refine qT ?_
   refine xp_dw [true, false, false, false, false, false, false] rfl rfl rfl ?_
   refine qI (i := 0) rfl (by decide +kernel) (qG rfl rfl rfl rfl 6 rfl) ?_
   refine wE (i := 1) rfl (by decide +kernel) ?_
   refine qL 2 (v := .slice _ _ _) rfl rfl rfl rfl ?_
   refine qI (i := 2) rfl (by decide +kernel) (qC (v := .pointer (some ⟨b, 0, none⟩)) rfl) ?_
   refine qI (i := 3) rfl (by decide +kernel) (qG rfl rfl rfl rfl 0 rfl) ?_
   refine wE (i := 4) rfl (by decide +kernel) ?_
   refine qL 2 (v := .int .i64 _) rfl rfl rfl rfl ?_
   refine qI (i := 5) rfl (by decide +kernel) (qS rfl (by omega)) ?_
   refine qI (i := 7) rfl (by decide +kernel) (qC (v := .pointer (some ⟨b, 0, none⟩)) rfl) ?_
   refine qI (i := 8) rfl (by decide +kernel) (qG rfl rfl rfl rfl 1 rfl) ?_
   refine wE (i := 9) rfl (by decide +kernel) ?_
   refine qL 2 (v := .int .i64 _) rfl rfl rfl rfl ?_
   refine qI (i := 10) rfl (by decide +kernel) (qS rfl (by omega)) ?_
   refine qI (i := 12) rfl (by decide +kernel) (qC (v := .pointer (some ⟨b, 0, none⟩)) rfl) ?_
   refine qI (i := 13) rfl (by decide +kernel) (qG rfl rfl rfl rfl 3 rfl) ?_
   refine wE (i := 14) rfl (by decide +kernel) ?_
   refine qL 2 (v := .int .i64 _) rfl rfl rfl rfl ?_
   refine qI (i := 15) rfl (by decide +kernel) (pv_quoT (c := t / 2) rfl rfl (by omega) (Int.tdiv_eq_ediv_of_nonneg (by omega)) (by omega)) ?_
   refine dw_eff (i := 6) rfl (by decide +kernel) ?_
   refine op_fnMM [] [_] [_, _, _, _, _, _] (vs := [.pointer _, .int .i64 _]) rfl rfl rfl ((Upto_ok b y (r - 1) (by omega) h_j)) ?_
   rintro _ h9 _ E9 ⟨y2, z, rfl, rfl, z1, z2⟩
   refine ⟨ext_wlm E9 _, ?_⟩
   refine wN [_, _, _, _, _, _, _] rfl ?_
   refine dw_eff (i := 11) rfl (by decide +kernel) ?_
   refine op_fnMM [] [_] [_, _, _, _, _, _] (vs := [.pointer _, .int .i64 _]) rfl rfl rfl ((Upto_ok b y2 (v - 1) (by omega) h9)) ?_
   rintro _ h10 _ E10 ⟨y3, w, rfl, rfl, w1, w2⟩
   refine ⟨ext_wlm E10 _, ?_⟩
   refine wN [_, _, _, _, _, _, _] rfl ?_
   refine dw_eff (i := 16) rfl (by decide +kernel) ?_
   refine op_fnMM [] [_] [_, _, _, _, _, _] (vs := [.pointer _, .int .i64 _]) rfl rfl rfl ((Upto_ok b y3 (t / 2) (by omega) h10)) ?_
   rintro _ h11 _ E11 ⟨y4, e, rfl, rfl, e1, e2⟩
   refine ⟨ext_wlm E11 _, ?_⟩
   refine wN [_, _, _, _, _, _, _] rfl ?_
   refine qI (i := 17) rfl (by decide +kernel) (zC (zc := [_, _, _]) (vs := [(0, .int .i64 _), (1, .int .i64 _), (2, .int .i64 _)]) (cs := [_, _, _]) rfl rfl rfl rfl rfl rfl) ?_
   refine dw_eff (i := 18) rfl (by decide +kernel) ?_
   refine qX (zc := [_, _, _]) (vs := [(0, .agg #[.int .i64 _, .int .i64 _, .int .i64 _])]) (cs := [_, _, _]) rfl rfl rfl rfl rfl rfl rfl fun b76 hb76 => ?_
   refine ⟨ext_newM hb76 _, ?_⟩
   refine wN [_, _, _, _, _, _, _, _] rfl ?_
   refine wV (i := 19) rfl (by decide +kernel) (by decide +kernel) ?_
   refine zA 4 KA rfl rfl rfl (fun V => rdP V (i := 7) rfl) rfl rfl rfl rfl rfl rfl rfl rfl rfl (by omega) rfl (by rw [wU (m := 3) (fun _ _ => rfl)]; simp; omega) fun a2 h4a E4a ha2 => ?_
   refine wN [_, _, _, _, _, _, _, _] rfl ?_
   refine qI (i := 20) rfl (by decide +kernel) (qG rfl rfl rfl rfl 6 rfl) ?_
   refine wV (i := 21) rfl (by decide +kernel) (by decide +kernel) ?_
   refine qY 2 (v := .slice _ _ _) (vs := [_]) (c' := [_, _, _, _, _, _, _, _, _]) rfl rfl rfl rfl rfl rfl rfl rfl rfl ?_
   refine wN [_, _, _, _, _, _, _, _] rfl ?_
   refine zI rfl ?_
   refine qB rfl ?_
   refine qA (qC (v := .int .i64 _) rfl) ?_
   refine qA (qS rfl (by omega)) ?_
   refine qA (qD (v := .int .i64 _) rfl) ?_
   refine ⟨(j - 1, y4, qs ++ [⟨z, w, e⟩], a2), ⟨rfl, trivial⟩, rfl, rfl, (zL (zL (zL (zL E_j E9) E10) E11) E4a), fun h3 E3 => ⟨⟨by omega, by simp; omega⟩, mem_one L3 ⟨⟨z1, by show z < r; omega⟩, ⟨w1, by show w < v; omega⟩, ⟨e1, by show e ≤ t; omega⟩⟩, by rw [List.flatMap_append]; exact ha2⟩, by first | omega | (dsimp only; omega), ?_⟩
   repeat (first | exact qW _ _ _ | refine wA (by decide) ?_ | refine qV rfl ?_ | refine wB rfl ?_)
  ·skip
   have hj0 : j = 0 := by have := of_decide_eq_false hu; omega
   obtain ⟨pP, AQ, nP, cQ⟩ := a
   obtain rfl : nP = qs.length := by have := AccR.len KA; rw [wU (m := 3) (fun _ _ => rfl)] at this; dsimp only at this; omega
   dsimp only at *
   have hcQ : qs.length ≤ cQ := AccP.cap KA (by omega)
   refine goes_pubO 4 rfl ?_
   intro gP GP PP
   refine qU [_, _, _, _, _, _, _] rfl ?_
   have RP : Row gP 3 pinC AQ qs := ⟨fun _ _ => rfl, AccR.rd KA PP⟩
   refine wS ?_
   refine xp_cutB [12, 13, 79, 80, 81, 82, 83, 84, 85, 86, 87, 88, 89, 90, 91, 92, 93, 94, 95, 96, 97, 98, 99, 100, 101, 102, 103, 104, 105, 106, 107, 108, 109, 110, 111, 112, 113, 114, 115, 116, 117, 118, 119, 120, 121, 122, 123, 124, 125] 7 (α := Nat × List LinkP × Acc) (fun ⟨y, ls, a⟩ => []) (fun ⟨y, ls, a⟩ L => ((L.set 0 (some (b, .cells #[.int .u64 (y : Int)] 70 (0, 0)))).set 2 (some (b9, .cells #[.int .i64 r, .int .i64 v, .int .i64 g, .int .i64 t, .int .i64 o, .slice AB bs.length cB, .slice AQ qs.length cQ, .slice a.A a.n a.c, .slice none 0 0] 26 (0, 0)))).set 5 (a.p)) (fun ⟨y, ls, a⟩ h_y => (ls.length : Int) ≤ links ∧ (∀ p ∈ ls, (0 ≤ p.frm ∧ p.frm < r) ∧ (0 ≤ p.to ∧ p.to < r) ∧ p.frm ≠ p.to ∧ (-1 ≤ p.reg ∧ p.reg < g) ∧ (1 ≤ p.lag ∧ p.lag ≤ t)) ∧ AccR 67 4 (ls.flatMap linkC) a) ?_ ?_
   ·skip
    refine qE ?_
    refine qB rfl ?_
    refine qA (qC (v := .pointer (some ⟨b, 0, none⟩)) rfl) ?_
    refine qA (qC (v := .int .i64 _) rfl) ?_
    refine op_fnMM [] [_] [_, _, _, _, _, _] (vs := [.pointer _, .int .i64 _]) rfl rfl rfl ((Upto_ok b y links (by omega) gP)) ?_
    rintro _ h12 _ E12 ⟨x12, k0, rfl, rfl, k01, k02⟩
    refine qN [_, _, _, _, _, _, _] rfl ?_
    refine qA (qD (v := .int .i64 _) rfl) ?_
    refine qT ?_
    refine xp_loopL [12, 13, 82, 83, 84, 85, 86, 87, 88, 89, 90, 91, 92, 93, 94, 95, 96, 97, 98, 99, 100, 101, 102, 103, 104, 105, 106, 107, 108, 109, 110, 111, 112, 113, 114, 115, 116, 117, 118, 119, 120, 121, 122, 123, 124, 125] 7 (α := Int × Nat × List LinkP × Acc) (fun ⟨k, y, ls, a⟩ => [(12, .int .i64 k)]) (fun ⟨k, y, ls, a⟩ L => ((L.set 0 (some (b, .cells #[.int .u64 (y : Int)] 70 (0, 0)))).set 2 (some (b9, .cells #[.int .i64 r, .int .i64 v, .int .i64 g, .int .i64 t, .int .i64 o, .slice AB bs.length cB, .slice AQ qs.length cQ, .slice a.A a.n a.c, .slice none 0 0] 26 (0, 0)))).set 5 (a.p)) (fun ⟨k, y, ls, a⟩ h_k => (0 ≤ k ∧ k + ls.length ≤ links) ∧ (∀ p ∈ ls, (0 ≤ p.frm ∧ p.frm < r) ∧ (0 ≤ p.to ∧ p.to < r) ∧ p.frm ≠ p.to ∧ (-1 ≤ p.reg ∧ p.reg < g) ∧ (1 ≤ p.lag ∧ p.lag ≤ t)) ∧ AccR 67 4 (ls.flatMap linkC) a) (fun ⟨k, y, ls, a⟩ => k.toNat) ((k0, x12, [], acc0)) ⟨rfl, trivial⟩ (rfl) (⟨⟨by omega, by simp; omega⟩, fun _ hz => absurd hz List.not_mem_nil, accR0⟩) ?_
    rintro ⟨k, y, ls, a⟩ T6 h_k E_k J_k
    refine qU [_, _, _, _, _, _, _] rfl ?_
    obtain ⟨⟨N1, N2⟩, N3, KA⟩ := J_k
    refine qE ?_
    refine qE ?_
    refine qB rfl ?_
    refine qA (qC (v := .int .i64 _) rfl) ?_
    refine qA (qK (v := .bool _) rfl) ?_
    refine qA (qC (v := .bool _) rfl) ?_
    rcases Bool.eq_false_or_eq_true (decide (k > 0)) with hk | hk
    ·skip
     have hk0 : k > 0 := of_decide_eq_true hk
     refine qF rfl hk ?_
     refine qA (qG rfl rfl rfl rfl 0 rfl) ?_
     refine qF rfl hk ?_
     refine qL 2 (v := .int .i64 _) rfl rfl rfl rfl ?_
     refine qF rfl hk ?_
     refine qA (qK (v := .bool _) rfl) ?_
     refine qA (qZ rfl hk (v := .bool _) rfl) ?_
     refine qP rfl (fun hr => ?_) (fun hr => ?_)
     ·skip
      have hr1 : r > 1 := of_decide_eq_true hr
      refine qO ?_
      refine qE ?_
      refine qT ?_
      refine qE ?_
      refine xp_dw [true, false, false, false, false, false, false] rfl rfl rfl ?_
      refine qI (i := 0) rfl (by decide +kernel) (qC (v := .pointer (some ⟨b, 0, none⟩)) rfl) ?_
      refine qI (i := 1) rfl (by decide +kernel) (qG rfl rfl rfl rfl 0 rfl) ?_
      refine wE (i := 2) rfl (by decide +kernel) ?_
      refine qL 2 (v := .int .i64 _) rfl rfl rfl rfl ?_
      refine qI (i := 3) rfl (by decide +kernel) (qS rfl (by omega)) ?_
      refine qI (i := 5) rfl (by decide +kernel) (qC (v := .pointer (some ⟨b, 0, none⟩)) rfl) ?_
      refine qI (i := 6) rfl (by decide +kernel) (qG rfl rfl rfl rfl 2 rfl) ?_
      refine wE (i := 7) rfl (by decide +kernel) ?_
      refine qL 2 (v := .int .i64 _) rfl rfl rfl rfl ?_
      refine qI (i := 8) rfl (by decide +kernel) (qS rfl (by omega)) ?_
      refine qI (i := 10) rfl (by decide +kernel) (qC (v := .pointer (some ⟨b, 0, none⟩)) rfl) ?_
      refine qI (i := 11) rfl (by decide +kernel) (qG rfl rfl rfl rfl 3 rfl) ?_
      refine wE (i := 12) rfl (by decide +kernel) ?_
      refine qL 2 (v := .int .i64 _) rfl rfl rfl rfl ?_
      refine qI (i := 13) rfl (by decide +kernel) (pv_quoT (c := t / 3) rfl rfl (by omega) (Int.tdiv_eq_ediv_of_nonneg (by omega)) (by omega)) ?_
      refine qI (i := 14) rfl (by decide +kernel) (pv_max rfl rfl) ?_
      refine dw_eff (i := 4) rfl (by decide +kernel) ?_
      refine op_fnMM [] [_] [_, _, _, _, _, _] (vs := [.pointer _, .int .i64 _]) rfl rfl rfl ((Upto_ok b y (r - 1) (by omega) h_k)) ?_
      rintro _ h13 _ E13 ⟨y2, z, rfl, rfl, z1, z2⟩
      refine ⟨ext_wlm E13 _, ?_⟩
      refine wN [_, _, _, _, _, _, _] rfl ?_
      refine dw_eff (i := 9) rfl (by decide +kernel) ?_
      refine op_fnMM [] [_] [_, _, _, _, _, _] (vs := [.pointer _, .int .i64 _, .int .i64 _]) rfl rfl rfl ((Within_ok b y2 (-1) (g - 1) (by omega) (by omega) (by omega) h13)) ?_
      rintro _ h14 _ E14 ⟨y3, e, rfl, rfl, e1, e2⟩
      refine ⟨ext_wlm E14 _, ?_⟩
      refine wN [_, _, _, _, _, _, _] rfl ?_
      refine wV (i := 15) rfl (by decide +kernel) (by decide +kernel) ?_
      refine op_fnMM [] [_] [_, _, _, _, _, _] (vs := [.pointer _, .int .i64 _, .int .i64 _]) rfl rfl rfl ((Within_ok b y3 1 (max 1 (t / 3)) (by omega) (by omega) (by omega) h14)) ?_
      rintro _ h15 _ E15 ⟨y4, w, rfl, rfl, w1, w2⟩
      refine wN [_, _, _, _, _, _, _] rfl ?_
      refine qI (i := 16) rfl (by decide +kernel) (zC (zc := [_, _, _, _]) (vs := [(0, .int .i64 _), (2, .int .i64 _), (3, .int .i64 _)]) (cs := [_, _, _, _]) rfl rfl rfl rfl rfl rfl) ?_
      refine dw_eff (i := 17) rfl (by decide +kernel) ?_
      refine zE (cs := [_, _, _, _]) rfl rfl fun b13 hb13 => ?_
      refine ⟨ext_newM hb13 _, ?_⟩
      refine wN [_, _, _, _, _, _, _, _] rfl ?_
      refine wV (i := 18) rfl (by decide +kernel) (by decide +kernel) ?_
      refine qY 7 (v := .agg #[.int .i64 _, .int .i64 _, .int .i64 _, .int .i64 _]) (vs := [_, _, _, _]) (c' := [_, _, _, _]) rfl rfl rfl rfl rfl rfl rfl rfl rfl ?_
      refine wN [_, _, _, _, _, _, _, _] rfl ?_
      refine zI rfl ?_
      refine qE ?_
      refine xp_dw [true, false, false, false, false, false, false, false] rfl rfl rfl ?_
      refine qI (i := 0) rfl (by decide +kernel) (qG rfl rfl rfl rfl 0 rfl) ?_
      refine wE (i := 1) rfl (by decide +kernel) ?_
      refine qL 7 (v := .int .i64 _) rfl rfl rfl rfl ?_
      refine qI (i := 2) rfl (by decide +kernel) (qC (v := .pointer (some ⟨b, 0, none⟩)) rfl) ?_
      refine qI (i := 3) rfl (by decide +kernel) (qG rfl rfl rfl rfl 0 rfl) ?_
      refine wE (i := 4) rfl (by decide +kernel) ?_
      refine qL 2 (v := .int .i64 _) rfl rfl rfl rfl ?_
      refine qI (i := 5) rfl (by decide +kernel) (qS rfl (by omega)) ?_
      refine qI (i := 8) rfl (by decide +kernel) (qG rfl rfl rfl rfl 0 rfl) ?_
      refine wE (i := 9) rfl (by decide +kernel) ?_
      refine qL 2 (v := .int .i64 _) rfl rfl rfl rfl ?_
      refine dw_eff (i := 6) rfl (by decide +kernel) ?_
      refine op_fnMM [] [_] [_, _, _, _, _, _, _] (vs := [.pointer _, .int .i64 _, .int .i64 _]) rfl rfl rfl ((Within_ok b y4 1 (r - 1) (by omega) (by omega) (by omega) h15)) ?_
      rintro _ h16 _ E16 ⟨y5, d, rfl, rfl, d1, d2⟩
      refine ⟨ext_wlm E16 _, ?_⟩
      refine wN [_, _, _, _, _, _, _, _] rfl ?_
      refine qI (i := 7) rfl (by decide +kernel) (qS rfl (by omega)) ?_
      refine wV (i := 10) rfl (by decide +kernel) (by decide +kernel) ?_
      refine wJ (caps := []) (vs := [.int .i64 _, .int .i64 _]) rfl rfl rfl (Turn_ok (z + d) r (by omega) h16) ?_
      rintro _ h17 E17 rfl
      have tb := turnI_bd (z + d) r
      have tn := turnI_ne (f := z) (d := d) (n := r) (by omega) ⟨z1, by omega⟩ ⟨d1, by omega⟩
      refine qI (i := 11) rfl (by decide +kernel) (qG rfl rfl rfl rfl 1 rfl) ?_
      refine wV (i := 12) rfl (by decide +kernel) (by decide +kernel) ?_
      refine qY 7 (v := .int .i64 _) (vs := [_]) (c' := [_, _, _, _]) rfl rfl rfl rfl rfl rfl rfl rfl rfl ?_
      refine wN [_, _, _, _, _, _, _, _] rfl ?_
      refine zI rfl ?_
      refine qB rfl ?_
      refine qA (qG rfl rfl rfl rfl 7 rfl) ?_
      refine qL 2 (v := .slice _ _ _) rfl rfl rfl rfl ?_
      refine wO 7 (vs := [.int .i64 _, .int .i64 _, .int .i64 _, .int .i64 _]) rfl rfl rfl rfl rfl ?_
      refine qX (zc := [_, _, _, _]) (vs := [(0, .agg #[.int .i64 _, .int .i64 _, .int .i64 _, .int .i64 _])]) (cs := [_, _, _, _]) rfl rfl rfl rfl rfl rfl rfl fun b123 hb123 => ?_
      refine qN [_, _, _, _, _, _, _, _, _] rfl ?_
      refine zA 5 KA rfl rfl rfl (fun V => rdP V (i := 8) rfl) rfl rfl rfl rfl rfl rfl rfl rfl rfl (by omega) rfl (by rw [wU (m := 4) (fun _ _ => rfl)]; simp; omega) fun a2 h7a E7a ha2 => ?_
      refine qN [_, _, _, _, _, _, _, _, _] rfl ?_
      refine qA (qG rfl rfl rfl rfl 7 rfl) ?_
      refine qY 2 (v := .slice _ _ _) (vs := [_]) (c' := [_, _, _, _, _, _, _, _, _]) rfl rfl rfl rfl rfl rfl rfl rfl rfl ?_
      refine qN [_, _, _, _, _, _, _, _, _] rfl ?_
      refine qB rfl ?_
      refine qA (qC (v := .int .i64 _) rfl) ?_
      refine qA (qS rfl (by omega)) ?_
      refine qA (qD (v := .int .i64 _) rfl) ?_
      refine ⟨(k - 1, y5, ls ++ [⟨z, turnI (z + d) r, e, w⟩], a2), ⟨rfl, trivial⟩, rfl, rfl, (zL (zL (zL (zL (zL (zL E_k E13) E14) E15) E16) E17) E7a), fun h3 E3 => ⟨⟨by omega, by simp; omega⟩, mem_one N3 ⟨⟨z1, by show z < r; omega⟩, ⟨tb.1, tb.2 (by omega)⟩, fun he => tn he.symm, ⟨e1, by show e < g; omega⟩, ⟨w1, by show w ≤ t; omega⟩⟩, by rw [List.flatMap_append]; exact ha2⟩, by first | omega | (dsimp only; omega), ?_⟩
      repeat (first | exact qW _ _ _ | refine wA (by decide) ?_ | refine qV rfl ?_ | refine wB rfl ?_)
     ·skip
      refine wS ?_
      refine ⟨(y, ls, a), trivial, rfl, rfl, (zL E12 E_k), fun h3 E3 => ⟨by omega, N3, KA⟩, ?_⟩
      repeat (first | exact wQ _ _ | exact qW _ _ _ | refine wA (by decide) ?_ | refine qV rfl ?_ | refine wB rfl ?_)
    ·skip
     have hk0 : k = 0 := by have := of_decide_eq_false hk; omega
     refine qH rfl hk ?_
     refine qH rfl hk ?_
     refine qH rfl hk ?_
     refine qA (wI rfl hk (v := .bool _) rfl) ?_
     refine wT rfl (rfl) ?_
     refine wS ?_
     refine ⟨(y, ls, a), trivial, rfl, rfl, (zL E12 E_k), fun h3 E3 => ⟨by omega, N3, KA⟩, ?_⟩
     repeat (first | exact wQ _ _ | exact qW _ _ _ | refine wA (by decide) ?_ | refine qV rfl ?_ | refine wB rfl ?_)
   ·rintro ⟨y, ls, a⟩ T5 h_y E_y J_y
    refine qU [_, _, _, _, _, _, _] rfl ?_
    obtain ⟨N1, N3, KA⟩ := J_y
    obtain ⟨pL, AL, nL, cL⟩ := a
    obtain rfl : nL = ls.length := by have := AccR.len KA; rw [wU (m := 4) (fun _ _ => rfl)] at this; dsimp only at this; omega
    dsimp only at *
    have hcL : ls.length ≤ cL := AccP.cap KA (by omega)
    refine goes_pubO 5 rfl ?_
    intro gL GL PL
    refine qU [_, _, _, _, _, _, _] rfl ?_
    have RL : Row gL 4 linkC AL ls := ⟨fun _ _ => rfl, AccR.rd KA PL⟩
    refine qE ?_
    refine qE ?_
    refine qB rfl ?_
    refine qA (qD (v := .int .i64 _) rfl) ?_
    refine qT ?_
    refine xp_loopL [14, 126, 127, 128, 129, 130, 131, 132, 133, 134, 135, 136, 137, 138] 7 (α := Nat × Nat × List Int × Acc) (fun ⟨k, y, ws, a⟩ => [(14, .int .i64 k)]) (fun ⟨k, y, ws, a⟩ L => ((L.set 0 (some (b, .cells #[.int .u64 (y : Int)] 70 (0, 0)))).set 2 (some (b9, .cells #[.int .i64 r, .int .i64 v, .int .i64 g, .int .i64 t, .int .i64 o, .slice AB bs.length cB, .slice AQ qs.length cQ, .slice AL ls.length cL, .slice a.A a.n a.c] 26 (0, 0)))).set 6 (a.p)) (fun ⟨k, y, ws, a⟩ h_k => (k ≤ v.toNat ∧ ws.length = k) ∧ (∀ z ∈ ws, 0 ≤ z ∧ z ≤ 50) ∧ AccR 3 1 (ws.flatMap intC) a) (fun ⟨k, y, ws, a⟩ => v.toNat - k) ((0, y, [], acc0)) ⟨rfl, trivial⟩ (rfl) (⟨⟨by omega, rfl⟩, fun _ hz => absurd hz List.not_mem_nil, accR0⟩) ?_
    rintro ⟨k, y, ws, a⟩ T8 h_k E_k J_k
    refine qU [_, _, _, _, _, _, _] rfl ?_
    obtain ⟨⟨M1, M2⟩, M3, KA⟩ := J_k
    refine qE ?_
    refine qE ?_
    refine qB rfl ?_
    refine qA (qC (v := .int .i64 _) rfl) ?_
    refine qA (qG rfl rfl rfl rfl 1 rfl) ?_
    refine qL 2 (v := .int .i64 _) rfl rfl rfl rfl ?_
    refine qA (qK (v := .bool _) rfl) ?_
    refine qP rfl (fun hw => ?_) (fun hw => ?_)
    ·skip
     have hkv : (k : Int) < v := of_decide_eq_true hw
     refine qO ?_
     refine qE ?_
     refine qT ?_
     refine xp_dw [true, false, false, false, false, false, false] rfl rfl rfl ?_
     refine qI (i := 0) rfl (by decide +kernel) (qG rfl rfl rfl rfl 8 rfl) ?_
     refine wE (i := 1) rfl (by decide +kernel) ?_
     refine qL 2 (v := .slice _ _ _) rfl rfl rfl rfl ?_
     refine qI (i := 2) rfl (by decide +kernel) (qC (v := .pointer (some ⟨b, 0, none⟩)) rfl) ?_
     refine dw_eff (i := 3) rfl (by decide +kernel) ?_
     refine op_fnMM [] [_] [_, _, _, _, _, _] (vs := [.pointer _, .int .i64 _]) rfl rfl rfl ((Upto_ok b y 9 (by omega) h_k)) ?_
     rintro _ h18 _ E18 ⟨y2, z, rfl, rfl, z1, z2⟩
     refine ⟨ext_wlm E18 _, ?_⟩
     refine wN [_, _, _, _, _, _, _] rfl ?_
     refine dw_eff (i := 4) rfl (by decide +kernel) ?_
     refine qX (zc := [_]) (vs := [(0, .int .i64 _)]) (cs := [_]) rfl rfl rfl rfl rfl rfl rfl fun b136 hb136 => ?_
     refine ⟨ext_newM hb136 _, ?_⟩
     refine wN [_, _, _, _, _, _, _, _] rfl ?_
     refine wV (i := 5) rfl (by decide +kernel) (by decide +kernel) ?_
     refine zA 6 KA rfl rfl rfl (fun V => rdP V (i := 7) rfl) rfl rfl rfl rfl rfl rfl rfl rfl rfl (by omega) rfl (by rw [wU (m := 1) (fun _ _ => rfl)]; simp; omega) fun a2 h9a E9a ha2 => ?_
     refine wN [_, _, _, _, _, _, _, _] rfl ?_
     refine qI (i := 6) rfl (by decide +kernel) (qG rfl rfl rfl rfl 8 rfl) ?_
     refine wV (i := 7) rfl (by decide +kernel) (by decide +kernel) ?_
     refine qY 2 (v := .slice _ _ _) (vs := [_]) (c' := [_, _, _, _, _, _, _, _, _]) rfl rfl rfl rfl rfl rfl rfl rfl rfl ?_
     refine wN [_, _, _, _, _, _, _, _] rfl ?_
     refine zI rfl ?_
     refine qB rfl ?_
     refine qA (qC (v := .int .i64 _) rfl) ?_
     refine qA (qS rfl (by omega)) ?_
     refine qA (qD (v := .int .i64 _) rfl) ?_
     refine ⟨(k + 1, y2, ws ++ [z], a2), ⟨rfl, trivial⟩, rfl, rfl, (zL (zL E_k E18) E9a), fun h3 E3 => ⟨⟨by omega, by simp; omega⟩, mem_one M3 ⟨z1, by omega⟩, by rw [List.flatMap_append]; exact ha2⟩, by first | omega | (dsimp only; omega), ?_⟩
     repeat (first | exact qW _ _ _ | refine wA (by decide) ?_ | refine qV rfl ?_ | refine wB rfl ?_)
    ·skip
     have hkv : (k : Int) = v := by have := of_decide_eq_false hw; omega
     obtain ⟨pW, AW, nW, cW⟩ := a
     obtain rfl : nW = ws.length := by have := AccR.len KA; rw [wU (m := 1) (fun _ _ => rfl)] at this; dsimp only at this; omega
     dsimp only at *
     refine goes_pubO 6 rfl ?_
     intro gW GW PW
     refine qU [_, _, _, _, _, _, _] rfl ?_
     have RW : Row gW 1 intC AW ws := ⟨fun _ _ => rfl, AccR.rd KA PW⟩
     refine wS ?_
     refine qE ?_
     refine qB rfl ?_
     refine wO 2 (vs := [.int .i64 _, .int .i64 _, .int .i64 _, .int .i64 _, .int .i64 _, .slice _ _ _, .slice _ _ _, .slice _ _ _, .slice _ _ _]) rfl rfl rfl rfl rfl ?_
     refine qY 1 (v := .agg #[.int .i64 _, .int .i64 _, .int .i64 _, .int .i64 _, .int .i64 _, .slice _ _ _, .slice _ _ _, .slice _ _ _, .slice _ _ _]) (vs := [_, _, _, _, _, _, _, _, _]) (c' := [_, _, _, _, _, _, _, _, _]) rfl rfl rfl rfl rfl rfl rfl rfl rfl ?_
     refine qN [_, _, _, _, _, _, _] rfl ?_
     refine qQ ?_
     refine qM (vs := [_]) Tryz.results7 ⟨resV_agg 1 rfl rfl rfl rfl rfl (vs := [.int .i64 _, .int .i64 _, .int .i64 _, .int .i64 _, .int .i64 _, .slice _ _ _, .slice _ _ _, .slice _ _ _, .slice _ _ _]) rfl, trivial⟩ fun V => ?_
     obtain ⟨h9, E9, e9, V9⟩ := wl_drop [_, _, _, _, _, _] [_] V
     have RB9 := (RB.ext (zL (zL (zL (zL (zL (zL E8 E_j) GP) E_y) GL) E_k) GW)).ext E9
     refine ⟨h9, _, e9, V9, zL (zL (zL (zL (zL (zL (zL (zL (zL (zL (zL (zL (zL (zL (zL E1 E2) E3) E4) E5) E6) E_i) GB) E8) E_j) GP) E_y) GL) E_k) GW) E9, y, ⟨r, v, g, t, o, bs, qs, ls, ws⟩, rfl, ⟨.slice AB bs.length cB, .slice AQ qs.length cQ, .slice AL ls.length cL, .slice AW ws.length cW, rfl, ⟨AB, cB, rfl, RB9⟩, ⟨AQ, cQ, rfl, (RP.ext (zL (zL (zL E_y GL) E_k) GW)).ext E9⟩, ⟨AL, cL, rfl, (RL.ext (zL E_k GW)).ext E9⟩, ⟨AW, cW, rfl, RW.ext E9⟩⟩, ?_⟩
     exact ⟨⟨⟨⟨r1, by show r ≤ 6; omega⟩, ⟨v1, by show v ≤ 6; omega⟩, ⟨g1, by show g ≤ 2; omega⟩, ⟨by show 1 ≤ t; omega, t2⟩, ⟨o1, by show o ≤ t; omega⟩, by show bs.length ≤ 4; omega, K3, by show qs.length ≤ 8; omega, L3, by show ls.length ≤ 4; omega, N3, by show (ws.length : Int) = v; omega, M3⟩, by show r ≤ size; omega, by show v ≤ size; omega, by show bs.length ≤ 3; omega, by show (qs.length : Int) ≤ pins; omega, N1⟩, capM_of hcQ hcL⟩
end
end Go.Proofs.YtmpahfdiebhdbaaGreatDoor
namespace Go.Proofs.YtmpahfdiebhdbaaGreatDoor
open Go Go.HL Go.Proofs Go.Wx Go.Rd
section
variable [Lvl]
set_option maxRecDepth 100000
end
end Go.Proofs.YtmpahfdiebhdbaaGreatDoor
namespace Go.HL
open Go Go.Wx Go.RowKit
def lawK (t : Nat) (h0 : AH) : Post
 | .normal, S, D, L, h => D = [] ∧ (Valid h L → Ext h0 (wl h L)) ∧ S t = .bool true
 | .ret, S, D, L, h => D = [] ∧ (Valid h L → Ext h0 (wl h L)) ∧ S t = .bool true
 | _, _, _, _, _ => False
theorem below_of {w w' : World} (se : SameEnv w w') (e : Ext (absH w.heap) (absH w'.heap)) : Below w.heap.size w w' := by
 have hb : ∀ k, k < w.heap.size → w'.heap[k]? = w.heap[k]? := by
  intro k hk
  have h1 : absH w.heap k = some w.heap[k] := Array.getElem?_eq_getElem hk
  have h2 : w'.heap[k]? = some w.heap[k] := e k _ h1
  rw [h2]
  exact (Array.getElem?_eq_getElem hk).symm
 refine ⟨se.os, se.tape, se.output, ?_, hb⟩
 rcases Nat.lt_or_ge w'.heap.size w.heap.size with h1 | h1
 ·have h2 := hb w'.heap.size h1
  rw [Array.getElem?_eq_getElem h1] at h2
  simp at h2
 ·exact h1
variable [Lvl]
end Go.HL
namespace Go.HL
open Go Go.Wx Go.RowKit Go.Conc Go.ConcN
def RunsTrue (P : Program) (f : FuncId) (args : Array Value) (w : World) : Prop :=
 ∃ M last o w' t', runNT P (M + 1) (solo (G (Frame.enter P f args .normal) []) w) #[] = (.ended o w', t') ∧ runN P M (solo (G (Frame.enter P f args .normal) []) w) = .next last ∧ step P last = .ended o w' ∧
  Go.Conc.Good P (fun v W' => v = .bool true ∧ Below w.heap.size w W') last o w' t'
theorem runs_body {P : Program} {f : FuncId} {fn : Func} {c : Code} {args : Array Value} {n t : Nat} {w : World} (hf : P.funcs[f]? = some fn) (hb : fn.body = some c) (hn : fn.ntmps = n) (ha : Nat.ble args.size n = true) (hr : fn.results = #[.tmp t]) (ht : Nat.blt t n = true) (hi : P.inits.idxOf? f = none)
  (x : ∀ h, h = absH w.heap → @xp ⟨true, none, none⟩ P n none c (lawK t h) (argS args) [] [] h) :
  RunsTrue P f args w := by
 letI : Lvl := ⟨true, none, none⟩
 have he : Frame.enter P f args .normal = mk { (default : Frame) with fn := f, kind := .normal, roundOf := none } n (argS args) [] [.code c] := by
  simp [Frame.enter, mk, hf, hb, hn, enter_tmps n args (Nat.le_of_ble_eq_true ha)]
 have hres : ∀ (S : Sl) (w' : World), S t = .bool true → results fn (arr n S) = .pure (.bool true) := by
  intro S w' hs
  unfold results
  rw [hr, List.mapM_toArray]
  have e1 : (arr n S).getD t undef = .bool true := by rw [arr_getD, if_pos (Nat.lt_of_lt_of_le (Nat.lt_succ_self t) (Nat.le_of_ble_eq_true ht)), hs]
  show Sem.pure ((arr n S).getD t undef) = _
  rw [e1]
 have x1 := x _ rfl (absH w.heap) (by have := Fits.nil (valid_nil (Fin.abs w.heap)); rw [wl_nil] at this; exact this) { (default : Frame) with fn := f, kind := .normal, roundOf := none } rfl [] []
 have x2 : Rch P (fun fr cs' H => cs' = [] ∧ fr.mode = .returning ∧ fr.defers = [] ∧ fr.kind = .normal ∧ fr.fn = f ∧ (∃ S, fr.tmps = arr n S ∧ S t = .bool true) ∧ Ext (absH w.heap) H) (mk { (default : Frame) with fn := f, kind := .normal, roundOf := none } n (argS args) [] [.code c]) [] (absH w.heap) := by
  refine x1.bind ?_
  rintro fr cs' H ⟨rfl, e, S', D', L', h', V', kk, a⟩
  cases e with
  | normal =>
   obtain ⟨rfl, ex, hs⟩ := kk
   have a' : fr = mk { (default : Frame) with fn := f, kind := .normal, roundOf := none } n S' [] [] := a
   subst a'
   have hH : H = wl h' L' := by rw [V'.eq]; exact hun_nil _
   subst hH
   refine .ctl (fr' := { mk { (default : Frame) with fn := f, kind := .normal, roundOf := none } n S' [] [] with mode := .returning }) (cs' := []) (fun w => by simp [stepG, stepG.exec, mk]) (.done ⟨rfl, rfl, rfl, rfl, rfl, ⟨S', rfl, hs⟩, ex V'.valid⟩)
  | ret =>
   obtain ⟨rfl, ex, hs⟩ := kk
   obtain ⟨todo, rfl⟩ := a.1 rfl
   have hH : H = wl h' L' := by rw [V'.eq]; exact hun_nil _
   subst hH
   exact .done ⟨rfl, rfl, rfl, rfl, rfl, ⟨S', rfl, hs⟩, ex V'.valid⟩
  | _ => exact kk.elim
 unfold RunsTrue
 rw [he]
 refine x2.ends rfl rfl ?_
 rintro fr cs h w' ⟨rfl, hm, hd, hk, hfn, ⟨S, htm, hs⟩, ex⟩ se rfl
 have hr1 := hres S w' hs
 have hru : (results fn fr.tmps).runT P w' #[] = (.ok (.bool true) w', #[]) := by rw [htm, hr1]; rfl
 have hf' : P.funcs[fr.fn]? = some fn := by rw [hfn]; exact hf
 have hi' : P.inits.idxOf? fr.fn = none := by rw [hfn]; exact hi
 have h1 : stepG P true (G fr []) w' = unwind P true fr [] none w' := by
  simp [stepG, stepG.exec, hm]
 have h2 : unwind P true fr [] none w' = GStep.after (seen P fr.fn #[]) (.ended (.done (.bool true)) w') := by
  unfold unwind
  rw [hd]
  simp only [hm, hf', hru]
  unfold doReturn
  simp only [hk, hi']
  rfl
 refine ⟨rfl, .bool true, seen P fr.fn #[], ?_, fun e he => ?_, rfl, below_of se ex⟩
 ·rw [h1, h2]
  simp [GStep.after]
 ·simp [seen] at he
end Go.HL
namespace Go.Rd
open Go Go.HL Go.Wx
variable [Lvl]
theorem chk_of {m : MachP} (M : MOK m) : chkM m = 0 := by
 unfold chkM
 have h := M.rods; have h2 := M.levers; have h3 := M.regs; have h4 := M.travel; have h5 := M.opn
 rw [if_neg (by simp [inM]; omega), if_neg (by simp [inM]; omega), if_neg (by simp [inM]; omega), if_neg (by simp [inM]; omega), if_neg (by simp [inM]; omega)]
 have b1 : firstErr (checkButtonM m) m.buttons = 0 := firstErr_iff.2 fun b hb => by
  have := M.btn b hb
  unfold checkButtonM
  rw [if_neg (by simp [inM]; omega)]
 have b2 : firstErr (checkPinM m) m.pins = 0 := firstErr_iff.2 fun p hp => by
  obtain ⟨a, b, c⟩ := M.pin p hp
  unfold checkPinM
  rw [if_neg (by simp [inM]; omega), if_neg (by simp [inM]; omega), if_neg (by simp [inM]; omega)]
 have b3 : firstErr (checkLinkM m) m.links = 0 := firstErr_iff.2 fun l hl => by
  obtain ⟨a, b, c, d, e⟩ := M.link l hl
  unfold checkLinkM
  rw [if_neg (by simp [inM]; omega), if_neg (by simp [inM]; omega), if_neg c, if_neg (by simp [inM]; omega), if_neg (by simp [inM]; omega)]
 have b4 : firstErr checkWeightM m.weights = 0 := firstErr_iff.2 fun w hw => by
  have := M.wt w hw
  unfold checkWeightM
  rw [if_neg (by simp [inM]; omega)]
 rw [if_neg (by have := M.bl; omega), b1, if_neg (by decide), if_neg (by have := M.pl; omega), b2, if_neg (by decide), if_neg (by have := M.ll; omega), b3, if_neg (by decide), if_neg (by have := M.wl; omega), b4]
theorem MOK.pins {m : MachP} (M : MOK m) : ∀ p ∈ m.pins, 0 ≤ p.lever ∧ 0 ≤ p.rod := fun p hp => ⟨(M.pin p hp).2.1.1, (M.pin p hp).1.1⟩
theorem MOK.cap {m : MachP} (M : MOK m) {ps : List PinP} {ls : List LinkP} (hp : ps.length ≤ 8) (hl : ls.length ≤ 4)
  (h1 : ∀ p ∈ ps, (0 ≤ p.rod ∧ p.rod < m.rods) ∧ (0 ≤ p.lever ∧ p.lever < m.levers) ∧ (0 ≤ p.lag ∧ p.lag ≤ m.travel))
  (h2 : ∀ l ∈ ls, (0 ≤ l.frm ∧ l.frm < m.rods) ∧ (0 ≤ l.to ∧ l.to < m.rods) ∧ l.frm ≠ l.to ∧ (-1 ≤ l.reg ∧ l.reg < m.regs) ∧ (1 ≤ l.lag ∧ l.lag ≤ m.travel)) : MOK { m with pins := ps, links := ls } :=
 ⟨M.rods, M.levers, M.regs, M.travel, M.opn, M.bl, M.btn, hp, h1, hl, h2, M.wl, M.wt⟩
end Go.Rd
namespace Go.Proofs.YtmpahfdiebhdbaaGreatDoor
open Go Go.HL Go.Proofs Go.Wx Go.Rd
section
variable [Lvl]
set_option maxRecDepth 100000
end
end Go.Proofs.YtmpahfdiebhdbaaGreatDoor
namespace Go.Proofs.YtmpahfdiebhdbaaGreatDoor
open Go Go.HL Go.Proofs Go.Wx Go.Rd
section
variable [Lvl]
set_option maxRecDepth 100000
end
end Go.Proofs.YtmpahfdiebhdbaaGreatDoor
namespace Go.Proofs.YtmpahfdiebhdbaaGreatDoor
open Go Go.HL Go.Proofs Go.Wx Go.Rd
section
variable [Lvl]
set_option maxRecDepth 100000
end
end Go.Proofs.YtmpahfdiebhdbaaGreatDoor
namespace Go.Proofs.YtmpahfdiebhdbaaGreatDoor
open Go Go.HL Go.Proofs Go.Wx Go.Rd
section
variable [Lvl]
set_option maxRecDepth 100000
end
end Go.Proofs.YtmpahfdiebhdbaaGreatDoor
namespace Go.Rd
open Go Go.HL Go.Wx
variable [Lvl]
end Go.Rd
namespace Go.Proofs.YtmpahfdiebhdbaaGreatDoor
open Go Go.HL Go.Proofs Go.Wx Go.Rd
section
variable [Lvl]
set_option maxRecDepth 100000
theorem among_ok (n lo hi : Int) (h : AH) : FnT Tryz.prog 55 #[.int .i64 n, .int .i64 lo, .int .i64 hi] h (fun v _ => v = .bool (inM n lo hi)) := by
 refine wH Tryz.func55 rfl Tryz.ntmps55 rfl ?_
 refine qE ?_
 refine qB rfl ?_
 refine qA (qD (v := .bool _) rfl) ?_
 refine qE ?_
 refine qB rfl ?_
 refine qA (qC (v := .int .i64 _) rfl) ?_
 refine qA (qC (v := .int .i64 _) rfl) ?_
 refine qA (qK (v := .bool _) rfl) ?_
 refine qA (qC (v := .bool _) rfl) ?_
 refine guard_case rfl (fun hg1 => ?_) (fun hg1 => ?_)
 ·replace hg1 : _ = true := hg1
  refine qA (qC (v := .int .i64 _) rfl) ?_
  refine qF rfl hg1 ?_
  refine qA (qC (v := .int .i64 _) rfl) ?_
  refine qF rfl hg1 ?_
  refine qA (qK (v := .bool _) rfl) ?_
  refine qA (qZ rfl hg1 (v := .bool _) rfl) ?_
  refine qA (qD (v := .bool _) rfl) ?_
  refine qQ ?_
  refine qM (vs := [_]) Tryz.results55 ⟨qJ rfl rfl, trivial⟩ fun V => ?_
  exact ⟨(qR V), boolE (by simp_all [inM] <;> omega)⟩
 ·replace hg1 : _ = false := hg1
  refine qH rfl hg1 ?_
  refine qH rfl hg1 ?_
  refine qA (wI rfl hg1 (v := .bool _) rfl) ?_
  refine qA (qD (v := .bool _) rfl) ?_
  refine qQ ?_
  refine qM (vs := [_]) Tryz.results55 ⟨qJ rfl rfl, trivial⟩ fun V => ?_
  exact ⟨(qR V), boolE (by simp_all [inM] <;> omega)⟩
end
end Go.Proofs.YtmpahfdiebhdbaaGreatDoor
namespace Go.Proofs.YtmpahfdiebhdbaaGreatDoor
open Go Go.HL Go.Proofs Go.Wx Go.Rd
section
variable [Lvl]
set_option maxRecDepth 100000
end
end Go.Proofs.YtmpahfdiebhdbaaGreatDoor
namespace Go.Proofs.YtmpahfdiebhdbaaGreatDoor
open Go Go.HL Go.Proofs Go.Wx Go.Rd
section
variable [Lvl]
set_option maxRecDepth 100000
end
end Go.Proofs.YtmpahfdiebhdbaaGreatDoor
namespace Go.Proofs.YtmpahfdiebhdbaaGreatDoor
open Go Go.HL Go.Proofs Go.Wx Go.Rd
section
variable [Lvl]
set_option maxRecDepth 100000
end
end Go.Proofs.YtmpahfdiebhdbaaGreatDoor
namespace Go.Proofs.YtmpahfdiebhdbaaGreatDoor
open Go Go.HL Go.Proofs Go.Wx Go.Rd
section
variable [Lvl]
set_option maxRecDepth 100000
def pk3 (m : MachP) : Int := if m.links.length > 4 then 6 else firstErr (checkLinkM m) m.links
def pk2 (m : MachP) : Int := if m.pins.length > 8 then 6 else if firstErr (checkPinM m) m.pins ≠ 0 then firstErr (checkPinM m) m.pins else pk3 m
def pk1 (m : MachP) : Int := if m.buttons.length > 4 then 6 else if firstErr (checkButtonM m) m.buttons ≠ 0 then firstErr (checkButtonM m) m.buttons else pk2 m
theorem pk_chk (m : MachP) : chk1 m = if pk1 m ≠ 0 then pk1 m else chk4 m := by
 unfold chk1 chk2 chk3 pk1 pk2 pk3
 by_cases a1 : m.buttons.length > 4
 ·simp only [if_pos a1]; rfl
 simp only [if_neg a1]
 by_cases a2 : firstErr (checkButtonM m) m.buttons ≠ 0
 ·simp only [if_pos a2]
 simp only [if_neg a2]
 by_cases a3 : m.pins.length > 8
 ·simp only [if_pos a3]; rfl
 simp only [if_neg a3]
 by_cases a4 : firstErr (checkPinM m) m.pins ≠ 0
 ·simp only [if_pos a4]
 simp only [if_neg a4]
 by_cases a5 : m.links.length > 4
 ·simp only [if_pos a5]; rfl
 simp only [if_neg a5]
set_option maxHeartbeats 4000000 in
theorem checkPartsG_ok (m : MachP) (b1 : 1 ≤ m.rods ∧ m.rods ≤ 6) (b2 : 1 ≤ m.levers ∧ m.levers ≤ 6) (b3 : 0 ≤ m.regs ∧ m.regs ≤ 2) (b4 : 1 ≤ m.travel ∧ m.travel ≤ 12) (AB AQ AL AW : Option Addr) (cB cQ cL cW : Nat) (h : AH) (R : MachR h AB AQ AL AW m) (h0 : m.buttons.length < 2 ^ 40) (h1 : m.pins.length < 2 ^ 40) (h2 : m.links.length < 2 ^ 40) :
  FnT Tryz.prog 56 #[machV AB AQ AL AW cB cQ cL cW m] h (fun v _ => v = .int .i64 (pk1 m)) := by
 refine wH Tryz.func56 rfl Tryz.ntmps56 rfl ?_
 refine qE ?_
 refine qB rfl ?_
 refine op_box (v := .agg #[.int .i64 _, .int .i64 _, .int .i64 _, .int .i64 _, .int .i64 _, .slice _ _ _, .slice _ _ _, .slice _ _ _, .slice _ _ _]) (cs := [_, _, _, _, _, _, _, _, _]) rfl rfl fun b1 hb1 => ?_
 refine qN [_] rfl ?_
 refine qA (qD (v := .int .i64 _) rfl) ?_
 refine qE ?_
 refine qE ?_
 refine qB rfl ?_
 refine qA (qG rfl rfl rfl rfl 5 rfl) ?_
 refine qL 0 (v := .slice _ _ _) rfl rfl rfl rfl ?_
 refine qA (wP rfl rfl) ?_
 refine qA (qK (v := .bool _) rfl) ?_
 refine qP rfl (fun hb => ?_) (fun hb => ?_)
 ·skip
  have hb' : 4 < m.buttons.length := by simp at hb; omega
  refine qE ?_
  refine qB rfl ?_
  refine qA (qD (v := .int .i64 _) rfl) ?_
  refine qQ ?_
  refine qM (vs := [_]) Tryz.results56 ⟨qJ rfl rfl, trivial⟩ fun V => ?_
  exact ⟨(qR V), intE (by rw [pk1, if_pos hb'])⟩
 ·skip
  have hb' : ¬ 4 < m.buttons.length := by simp at hb; omega
  refine qO ?_
  refine qE ?_
  refine qE ?_
  refine qB rfl ?_
  refine qA (qD (v := .int .i64 _) rfl) ?_
  refine qT ?_
  refine zH [2, 3, 12, 13, 14, 15, 16, 17, 18, 19, 20, 21, 22, 23, 24, 25, 26, 27, 28] 1 (α := Nat) (fun k => [(3, .int .i64 k)]) (fun k => _) (fun k h_k => k ≤ m.buttons.length ∧ firstErr (checkButtonM m) (m.buttons.take k) = 0) (fun k => m.buttons.length - k) (0) ⟨rfl, trivial⟩ (rfl) (⟨Nat.zero_le _, rfl⟩) ?_
  rintro k T1 h_k E_k J_k
  refine qU [_] rfl ?_
  obtain ⟨K1, K2⟩ := J_k
  refine qE ?_
  refine qE ?_
  refine qB rfl ?_
  refine qA (qC (v := .int .i64 _) rfl) ?_
  refine qA (qG rfl rfl rfl rfl 5 rfl) ?_
  refine qL 0 (v := .slice _ _ _) rfl rfl rfl rfl ?_
  refine qA (wP rfl rfl) ?_
  refine qA (qK (v := .bool _) rfl) ?_
  refine qP rfl (fun hk => ?_) (fun hk => ?_)
  ·skip
   have hkl : k < m.buttons.length := ltI hk
   obtain ⟨g, off, hA, hc⟩ := (R.b.ext E_k).at (by omega) hkl
   refine qO ?_
   refine qE ?_
   refine qT ?_
   refine qE ?_
   refine xp_dw [] rfl rfl rfl ?_
   refine qI (i := 0) rfl (by decide +kernel) (qG rfl rfl rfl rfl 5 rfl) ?_
   refine wE (i := 1) rfl (by decide +kernel) ?_
   refine qL 0 (v := .slice _ _ _) rfl rfl rfl rfl ?_
   refine qI (i := 2) rfl (by decide +kernel) (qC (v := .int .i64 _) rfl) ?_
   refine qI (i := 3) rfl (by decide +kernel) (wD rfl hA rfl rfl rfl (by omega) (by omega)) ?_
   refine wE (i := 4) rfl (by decide +kernel) ?_
   refine wL (v := .int .i64 _) rfl rfl ((hc) 0 _ rfl) ?_
   refine qI (i := 5) rfl (by decide +kernel) (qG rfl rfl rfl rfl 0 rfl) ?_
   refine wE (i := 6) rfl (by decide +kernel) ?_
   refine qL 0 (v := .int .i64 _) rfl rfl rfl rfl ?_
   refine qI (i := 7) rfl (by decide +kernel) (qS rfl (by omega)) ?_
   refine wV (i := 8) rfl (by decide +kernel) (by decide +kernel) ?_
   refine wJ (caps := []) (vs := [.int .i64 _, .int .i64 _, .int .i64 _]) rfl rfl rfl (among_ok _ _ _ h_k) ?_
   rintro _ h1 E1 rfl
   refine qI (i := 9) rfl (by decide +kernel) (qK (v := .bool _) rfl) ?_
   refine zI rfl ?_
   refine qP rfl (fun hw => ?_) (fun hw => ?_)
   ·skip
    have ew : checkButtonM m m.buttons[k] = 3 := by rw [checkButtonM, if_pos hw]
    refine qE ?_
    refine qB rfl ?_
    refine qA (qD (v := .int .i64 _) rfl) ?_
    refine qQ ?_
    refine qM (vs := [_]) Tryz.results56 ⟨qJ rfl rfl, trivial⟩ fun V => ?_
    refine ⟨(zL (zL E_k E1) (qR V)), intE ?_⟩
    have ef := zG hkl K2 (by rw [ew]; decide)
    rw [ew] at ef
    rw [pk1, if_neg hb', if_pos (by rw [ef]; decide), ef]
   ·skip
    refine qO ?_
    refine qB rfl ?_
    refine qA (qC (v := .int .i64 _) rfl) ?_
    refine qA (qS rfl (by omega)) ?_
    refine qA (qD (v := .int .i64 _) rfl) ?_
    refine ⟨k + 1, ⟨rfl, trivial⟩, rfl, rfl, (zL E_k E1), fun h3 E3 => ⟨hkl, firstErr_go hkl K2 (by rw [checkButtonM, if_neg (by simpa using hw)])⟩, by first | omega | (dsimp only; omega), ?_⟩
    repeat (first | exact qW _ _ _ | refine wA (by decide) ?_ | refine qV rfl ?_ | refine wB rfl ?_)
  ·skip
   have hke : k = m.buttons.length := by have := geI hk; omega
   subst hke
   rw [List.take_length] at K2
   have C2 : pk1 m = pk2 m := by rw [pk1, if_neg hb', if_neg (by simp [K2])]
   refine wS ?_
   refine qE ?_
   refine qE ?_
   refine qB rfl ?_
   refine qA (qG rfl rfl rfl rfl 6 rfl) ?_
   refine qL 0 (v := .slice _ _ _) rfl rfl rfl rfl ?_
   refine qA (wP rfl rfl) ?_
   refine qA (qK (v := .bool _) rfl) ?_
   refine qP rfl (fun hq => ?_) (fun hq => ?_)
   ·skip
    refine qE ?_
    refine qB rfl ?_
    refine qA (qD (v := .int .i64 _) rfl) ?_
    refine qQ ?_
    refine qM (vs := [_]) Tryz.results56 ⟨qJ rfl rfl, trivial⟩ fun V => ?_
    have hq' : 8 < m.pins.length := by simp at hq; omega
    exact ⟨(zL E_k (qR V)), intE (by rw [C2, pk2, if_pos hq'])⟩
   ·skip
    have hq' : ¬ 8 < m.pins.length := by simp at hq; omega
    refine qO ?_
    refine qE ?_
    refine qE ?_
    refine qB rfl ?_
    refine qA (qD (v := .int .i64 _) rfl) ?_
    refine qT ?_
    refine zH [2, 4, 5, 33, 34, 35, 36, 37, 38, 39, 40, 41, 42, 43, 44, 45, 46, 47, 48, 49, 50, 51, 52, 53, 54, 55, 56, 57, 58, 59, 60, 61, 62, 63, 64, 65, 66] 1 (α := Nat) (fun j => [(4, .int .i64 j)]) (fun j => _) (fun j h_j => j ≤ m.pins.length ∧ firstErr (checkPinM m) (m.pins.take j) = 0) (fun j => m.pins.length - j) (0) ⟨rfl, trivial⟩ (rfl) (⟨Nat.zero_le _, rfl⟩) ?_
    rintro j T2 h_j E_j J_j
    refine qU [_] rfl ?_
    obtain ⟨P1, P2⟩ := J_j
    refine qE ?_
    refine qE ?_
    refine qB rfl ?_
    refine qA (qC (v := .int .i64 _) rfl) ?_
    refine qA (qG rfl rfl rfl rfl 6 rfl) ?_
    refine qL 0 (v := .slice _ _ _) rfl rfl rfl rfl ?_
    refine qA (wP rfl rfl) ?_
    refine qA (qK (v := .bool _) rfl) ?_
    refine qP rfl (fun hk2 => ?_) (fun hk2 => ?_)
    ·skip
     have hkl : j < m.pins.length := ltI hk2
     obtain ⟨g, off, hA, hc⟩ := (R.q.ext (zL E_k E_j)).at (by omega) hkl
     refine qO ?_
     refine qE ?_
     refine qT ?_
     refine qE ?_
     refine qB rfl ?_
     refine qA (qG rfl rfl rfl rfl 6 rfl) ?_
     refine qL 0 (v := .slice _ _ _) rfl rfl rfl rfl ?_
     refine qA (qC (v := .int .i64 _) rfl) ?_
     refine qA (wD rfl hA rfl rfl rfl (by omega) (by omega)) ?_
     refine op_loadA rfl rfl rfl rfl (hc) ?_
     refine zE (cs := [_, _, _]) rfl rfl fun b5 hb5 => ?_
     refine qN [_, _] rfl ?_
     refine qY 1 (v := .agg #[.int .i64 _, .int .i64 _, .int .i64 _]) (vs := [_, _, _]) (c' := [_, _, _]) rfl rfl rfl rfl rfl rfl rfl rfl rfl ?_
     refine qN [_, _] rfl ?_
     refine qE ?_
     refine qE ?_
     refine qB rfl ?_
     refine qA (qG rfl rfl rfl rfl 0 rfl) ?_
     refine qL 1 (v := .int .i64 _) rfl rfl rfl rfl ?_
     refine qA (qG rfl rfl rfl rfl 0 rfl) ?_
     refine qL 0 (v := .int .i64 _) rfl rfl rfl rfl ?_
     refine qA (qS rfl (by omega)) ?_
     refine wJ (caps := []) (vs := [.int .i64 _, .int .i64 _, .int .i64 _]) rfl rfl rfl (among_ok _ _ _ h_j) ?_
     rintro _ h1 E1 rfl
     rcases Bool.eq_false_or_eq_true (inM m.pins[j].rod 0 (m.rods - 1)) with e1 | e1
     ·skip
      have e1' : (!inM m.pins[j].rod 0 (m.rods - 1)) = false := by rw [e1]; rfl
      refine qA (qK (v := .bool _) rfl) ?_
      refine qA (qC (v := .bool _) rfl) ?_
      refine qF rfl e1' ?_
      refine qA (qG rfl rfl rfl rfl 1 rfl) ?_
      refine qF rfl e1' ?_
      refine qL 1 (v := .int .i64 _) rfl rfl rfl rfl ?_
      refine qF rfl e1' ?_
      refine qA (qG rfl rfl rfl rfl 1 rfl) ?_
      refine qF rfl e1' ?_
      refine qL 0 (v := .int .i64 _) rfl rfl rfl rfl ?_
      refine qF rfl e1' ?_
      refine qA (qS rfl (by omega)) ?_
      refine qF rfl e1' ?_
      refine wJ (caps := []) (vs := [.int .i64 _, .int .i64 _, .int .i64 _]) rfl rfl rfl (among_ok _ _ _ h1) ?_
      rintro _ h2 E2 rfl
      refine qF rfl e1' ?_
      refine qA (qK (v := .bool _) rfl) ?_
      refine qA (wI rfl e1' (v := .bool _) rfl) ?_
      refine qP rfl (fun hw => ?_) (fun hw => ?_)
      ·skip
       have ew : checkPinM m m.pins[j] = 3 := by rw [checkPinM, if_neg (by rw [e1']; decide), if_pos hw]
       refine qE ?_
       refine qB rfl ?_
       refine qA (qD (v := .int .i64 _) rfl) ?_
       refine qQ ?_
       refine qM (vs := [_]) Tryz.results56 ⟨qJ rfl rfl, trivial⟩ fun V => ?_
       refine ⟨(zL (zL (zL (zL E_k E_j) E1) E2) (qR V)), intE ?_⟩
       have ef := zG hkl P2 (by rw [ew]; decide)
       rw [ew] at ef
       rw [C2, pk2, if_neg hq', if_pos (by rw [ef]; decide), ef]
      ·skip
       refine qO ?_
       refine qE ?_
       refine qB rfl ?_
       refine qA (qG rfl rfl rfl rfl 2 rfl) ?_
       refine qL 1 (v := .int .i64 _) rfl rfl rfl rfl ?_
       refine qA (qG rfl rfl rfl rfl 3 rfl) ?_
       refine qL 0 (v := .int .i64 _) rfl rfl rfl rfl ?_
       refine wJ (caps := []) (vs := [.int .i64 _, .int .i64 _, .int .i64 _]) rfl rfl rfl (among_ok _ _ _ h2) ?_
       rintro _ h3 E3 rfl
       refine qA (qK (v := .bool _) rfl) ?_
       refine qP rfl (fun hw2 => ?_) (fun hw2 => ?_)
       ·skip
        have ew : checkPinM m m.pins[j] = 1 := by rw [checkPinM, if_neg (by rw [e1']; decide), if_neg (by rw [hw]; decide), if_pos hw2]
        refine qE ?_
        refine qB rfl ?_
        refine qA (qD (v := .int .i64 _) rfl) ?_
        refine qQ ?_
        refine qM (vs := [_]) Tryz.results56 ⟨qJ rfl rfl, trivial⟩ fun V => ?_
        refine ⟨(zL (zL (zL (zL (zL E_k E_j) E1) E2) E3) (qR V)), intE ?_⟩
        have ef := zG hkl P2 (by rw [ew]; decide)
        rw [ew] at ef
        rw [C2, pk2, if_neg hq', if_pos (by rw [ef]; decide), ef]
       ·skip
        refine qO ?_
        refine qB rfl ?_
        refine qA (qC (v := .int .i64 _) rfl) ?_
        refine qA (qS rfl (by omega)) ?_
        refine qA (qD (v := .int .i64 _) rfl) ?_
        refine ⟨j + 1, ⟨rfl, trivial⟩, rfl, rfl, (zL (zL (zL E_j E1) E2) E3), fun h3 E3 => ⟨hkl, firstErr_go hkl P2 (by rw [checkPinM, if_neg (by rw [e1']; decide), if_neg (by rw [hw]; decide), if_neg (by rw [hw2]; decide)])⟩, by first | omega | (dsimp only; omega), ?_⟩
        repeat (first | exact qW _ _ _ | refine wA (by decide) ?_ | refine qV rfl ?_ | refine wB rfl ?_)
     ·skip
      have e1' : (!inM m.pins[j].rod 0 (m.rods - 1)) = true := by rw [e1]; rfl
      refine qA (qK (v := .bool _) rfl) ?_
      refine qA (qC (v := .bool _) rfl) ?_
      refine qH rfl e1' ?_
      refine qH rfl e1' ?_
      refine qH rfl e1' ?_
      refine qH rfl e1' ?_
      refine qH rfl e1' ?_
      refine qH rfl e1' ?_
      refine qH rfl e1' ?_
      refine qA (qZ rfl e1' (v := .bool _) rfl) ?_
      refine wW rfl (rfl) ?_
      have ew : checkPinM m m.pins[j] = 3 := by rw [checkPinM, if_pos e1']
      refine qE ?_
      refine qB rfl ?_
      refine qA (qD (v := .int .i64 _) rfl) ?_
      refine qQ ?_
      refine qM (vs := [_]) Tryz.results56 ⟨qJ rfl rfl, trivial⟩ fun V => ?_
      refine ⟨(zL (zL (zL E_k E_j) E1) (qR V)), intE ?_⟩
      have ef := zG hkl P2 (by rw [ew]; decide)
      rw [ew] at ef
      rw [C2, pk2, if_neg hq', if_pos (by rw [ef]; decide), ef]
    ·skip
     have hke : j = m.pins.length := by have := geI hk2; omega
     subst hke
     rw [List.take_length] at P2
     have C3 : pk1 m = pk3 m := by rw [C2, pk2, if_neg hq', if_neg (by simp [P2])]
     refine wS ?_
     refine qE ?_
     refine qE ?_
     refine qB rfl ?_
     refine qA (qG rfl rfl rfl rfl 7 rfl) ?_
     refine qL 0 (v := .slice _ _ _) rfl rfl rfl rfl ?_
     refine qA (wP rfl rfl) ?_
     refine qA (qK (v := .bool _) rfl) ?_
     refine qP rfl (fun hl => ?_) (fun hl => ?_)
     ·skip
      refine qE ?_
      refine qB rfl ?_
      refine qA (qD (v := .int .i64 _) rfl) ?_
      refine qQ ?_
      refine qM (vs := [_]) Tryz.results56 ⟨qJ rfl rfl, trivial⟩ fun V => ?_
      have hl' : 4 < m.links.length := by simp at hl; omega
      exact ⟨(zL (zL E_k E_j) (qR V)), intE (by rw [C3, pk3, if_pos hl'])⟩
     ·skip
      have hl' : ¬ 4 < m.links.length := by simp at hl; omega
      have CL : pk1 m = firstErr (checkLinkM m) m.links := by rw [C3, pk3, if_neg hl']
      refine qO ?_
      refine qE ?_
      refine qE ?_
      refine qB rfl ?_
      refine qA (qD (v := .int .i64 _) rfl) ?_
      refine qT ?_
      refine zH [2, 6, 7, 71, 72, 73, 74, 75, 76, 77, 78, 79, 80, 81, 82, 83, 84, 85, 86, 87, 88, 89, 90, 91, 92, 93, 94, 95, 96, 97, 98, 99, 100, 101, 102, 103, 104, 105, 106, 107, 108, 109, 110, 111, 112, 113, 114, 115, 116] 1 (α := Nat) (fun i => [(6, .int .i64 i)]) (fun i => _) (fun i h_i => i ≤ m.links.length ∧ firstErr (checkLinkM m) (m.links.take i) = 0) (fun i => m.links.length - i) (0) ⟨rfl, trivial⟩ (rfl) (⟨Nat.zero_le _, rfl⟩) ?_
      rintro i T3 h_i E_i J_i
      refine qU [_] rfl ?_
      obtain ⟨L1, L2⟩ := J_i
      refine qE ?_
      refine qE ?_
      refine qB rfl ?_
      refine qA (qC (v := .int .i64 _) rfl) ?_
      refine qA (qG rfl rfl rfl rfl 7 rfl) ?_
      refine qL 0 (v := .slice _ _ _) rfl rfl rfl rfl ?_
      refine qA (wP rfl rfl) ?_
      refine qA (qK (v := .bool _) rfl) ?_
      refine qP rfl (fun hk3 => ?_) (fun hk3 => ?_)
      ·skip
       have hkl : i < m.links.length := ltI hk3
       obtain ⟨g, off, hA, hc⟩ := (R.l.ext (zL (zL E_k E_j) E_i)).at (by omega) hkl
       refine qO ?_
       refine qE ?_
       refine qT ?_
       refine qE ?_
       refine qB rfl ?_
       refine qA (qG rfl rfl rfl rfl 7 rfl) ?_
       refine qL 0 (v := .slice _ _ _) rfl rfl rfl rfl ?_
       refine qA (qC (v := .int .i64 _) rfl) ?_
       refine qA (wD rfl hA rfl rfl rfl (by omega) (by omega)) ?_
       refine op_loadA rfl rfl rfl rfl (hc) ?_
       refine zE (cs := [_, _, _, _]) rfl rfl fun b7 hb7 => ?_
       refine qN [_, _] rfl ?_
       refine qY 1 (v := .agg #[.int .i64 _, .int .i64 _, .int .i64 _, .int .i64 _]) (vs := [_, _, _, _]) (c' := [_, _, _, _]) rfl rfl rfl rfl rfl rfl rfl rfl rfl ?_
       refine qN [_, _] rfl ?_
       refine qE ?_
       refine qE ?_
       refine qB rfl ?_
       refine qA (qG rfl rfl rfl rfl 0 rfl) ?_
       refine qL 1 (v := .int .i64 _) rfl rfl rfl rfl ?_
       refine qA (qG rfl rfl rfl rfl 0 rfl) ?_
       refine qL 0 (v := .int .i64 _) rfl rfl rfl rfl ?_
       refine qA (qS rfl (by omega)) ?_
       refine wJ (caps := []) (vs := [.int .i64 _, .int .i64 _, .int .i64 _]) rfl rfl rfl (among_ok _ _ _ h_i) ?_
       rintro _ h1 E1 rfl
       rcases Bool.eq_false_or_eq_true (inM m.links[i].frm 0 (m.rods - 1)) with e1 | e1
       ·skip
        have e1' : (!inM m.links[i].frm 0 (m.rods - 1)) = false := by rw [e1]; rfl
        refine qA (qK (v := .bool _) rfl) ?_
        refine qA (qC (v := .bool _) rfl) ?_
        refine qF rfl e1' ?_
        refine qA (qG rfl rfl rfl rfl 1 rfl) ?_
        refine qF rfl e1' ?_
        refine qL 1 (v := .int .i64 _) rfl rfl rfl rfl ?_
        refine qF rfl e1' ?_
        refine qA (qG rfl rfl rfl rfl 0 rfl) ?_
        refine qF rfl e1' ?_
        refine qL 0 (v := .int .i64 _) rfl rfl rfl rfl ?_
        refine qF rfl e1' ?_
        refine qA (qS rfl (by omega)) ?_
        refine qF rfl e1' ?_
        refine wJ (caps := []) (vs := [.int .i64 _, .int .i64 _, .int .i64 _]) rfl rfl rfl (among_ok _ _ _ h1) ?_
        rintro _ h2 E2 rfl
        refine qF rfl e1' ?_
        refine qA (qK (v := .bool _) rfl) ?_
        refine qA (wI rfl e1' (v := .bool _) rfl) ?_
        refine qP rfl (fun hw => ?_) (fun hw => ?_)
        ·skip
         have ew : checkLinkM m m.links[i] = 3 := by rw [checkLinkM, if_neg (by rw [e1']; decide), if_pos hw]
         refine qE ?_
         refine qB rfl ?_
         refine qA (qD (v := .int .i64 _) rfl) ?_
         refine qQ ?_
         refine qM (vs := [_]) Tryz.results56 ⟨qJ rfl rfl, trivial⟩ fun V => ?_
         refine ⟨(zL (zL (zL (zL (zL E_k E_j) E_i) E1) E2) (qR V)), intE ?_⟩
         rw [CL, zG hkl L2 (by rw [ew]; decide), ew]
        ·skip
         refine qO ?_
         refine qE ?_
         refine qE ?_
         refine qB rfl ?_
         refine qA (qG rfl rfl rfl rfl 0 rfl) ?_
         refine qL 1 (v := .int .i64 _) rfl rfl rfl rfl ?_
         refine qA (qG rfl rfl rfl rfl 1 rfl) ?_
         refine qL 1 (v := .int .i64 _) rfl rfl rfl rfl ?_
         refine qA (qK (v := .bool _) rfl) ?_
         refine qP rfl (fun hx => ?_) (fun hx => ?_)
         ·skip
          have hx' : m.links[i].frm = m.links[i].to := by simpa using hx
          have ew : checkLinkM m m.links[i] = 4 := by rw [checkLinkM, if_neg (by rw [e1']; decide), if_neg (by rw [hw]; decide), if_pos hx']
          refine qE ?_
          refine qB rfl ?_
          refine qA (qD (v := .int .i64 _) rfl) ?_
          refine qQ ?_
          refine qM (vs := [_]) Tryz.results56 ⟨qJ rfl rfl, trivial⟩ fun V => ?_
          refine ⟨(zL (zL (zL (zL (zL E_k E_j) E_i) E1) E2) (qR V)), intE ?_⟩
          rw [CL, zG hkl L2 (by rw [ew]; decide), ew]
         ·skip
          have hx' : ¬ m.links[i].frm = m.links[i].to := by simpa using hx
          refine qO ?_
          refine qE ?_
          refine qE ?_
          refine qB rfl ?_
          refine qA (qG rfl rfl rfl rfl 2 rfl) ?_
          refine qL 1 (v := .int .i64 _) rfl rfl rfl rfl ?_
          refine qA (qG rfl rfl rfl rfl 2 rfl) ?_
          refine qL 0 (v := .int .i64 _) rfl rfl rfl rfl ?_
          refine qA (qS rfl (by omega)) ?_
          refine wJ (caps := []) (vs := [.int .i64 _, .int .i64 _, .int .i64 _]) rfl rfl rfl (among_ok _ _ _ h2) ?_
          rintro _ h3 E3 rfl
          refine qA (qK (v := .bool _) rfl) ?_
          refine qP rfl (fun hw3 => ?_) (fun hw3 => ?_)
          ·skip
           have ew : checkLinkM m m.links[i] = 3 := by rw [checkLinkM, if_neg (by rw [e1']; decide), if_neg (by rw [hw]; decide), if_neg hx', if_pos hw3]
           refine qE ?_
           refine qB rfl ?_
           refine qA (qD (v := .int .i64 _) rfl) ?_
           refine qQ ?_
           refine qM (vs := [_]) Tryz.results56 ⟨qJ rfl rfl, trivial⟩ fun V => ?_
           refine ⟨(zL (zL (zL (zL (zL (zL E_k E_j) E_i) E1) E2) E3) (qR V)), intE ?_⟩
           rw [CL, zG hkl L2 (by rw [ew]; decide), ew]
          ·skip
           refine qO ?_
           refine qE ?_
           refine qB rfl ?_
           refine qA (qG rfl rfl rfl rfl 3 rfl) ?_
           refine qL 1 (v := .int .i64 _) rfl rfl rfl rfl ?_
           refine qA (qG rfl rfl rfl rfl 3 rfl) ?_
           refine qL 0 (v := .int .i64 _) rfl rfl rfl rfl ?_
           refine wJ (caps := []) (vs := [.int .i64 _, .int .i64 _, .int .i64 _]) rfl rfl rfl (among_ok _ _ _ h3) ?_
           rintro _ h4 E4 rfl
           refine qA (qK (v := .bool _) rfl) ?_
           refine qP rfl (fun hw4 => ?_) (fun hw4 => ?_)
           ·skip
            have ew : checkLinkM m m.links[i] = 1 := by rw [checkLinkM, if_neg (by rw [e1']; decide), if_neg (by rw [hw]; decide), if_neg hx', if_neg (by rw [hw3]; decide), if_pos hw4]
            refine qE ?_
            refine qB rfl ?_
            refine qA (qD (v := .int .i64 _) rfl) ?_
            refine qQ ?_
            refine qM (vs := [_]) Tryz.results56 ⟨qJ rfl rfl, trivial⟩ fun V => ?_
            refine ⟨(zL (zL (zL (zL (zL (zL (zL E_k E_j) E_i) E1) E2) E3) E4) (qR V)), intE ?_⟩
            rw [CL, zG hkl L2 (by rw [ew]; decide), ew]
           ·skip
            refine qO ?_
            refine qB rfl ?_
            refine qA (qC (v := .int .i64 _) rfl) ?_
            refine qA (qS rfl (by omega)) ?_
            refine qA (qD (v := .int .i64 _) rfl) ?_
            refine ⟨i + 1, ⟨rfl, trivial⟩, rfl, rfl, (zL (zL (zL (zL E_i E1) E2) E3) E4), fun h3 E3 => ⟨hkl, firstErr_go hkl L2 (by rw [checkLinkM, if_neg (by rw [e1']; decide), if_neg (by rw [hw]; decide), if_neg hx', if_neg (by rw [hw3]; decide), if_neg (by rw [hw4]; decide)])⟩, by first | omega | (dsimp only; omega), ?_⟩
            repeat (first | exact qW _ _ _ | refine wA (by decide) ?_ | refine qV rfl ?_ | refine wB rfl ?_)
       ·skip
        have e1' : (!inM m.links[i].frm 0 (m.rods - 1)) = true := by rw [e1]; rfl
        refine qA (qK (v := .bool _) rfl) ?_
        refine qA (qC (v := .bool _) rfl) ?_
        refine qH rfl e1' ?_
        refine qH rfl e1' ?_
        refine qH rfl e1' ?_
        refine qH rfl e1' ?_
        refine qH rfl e1' ?_
        refine qH rfl e1' ?_
        refine qH rfl e1' ?_
        refine qA (qZ rfl e1' (v := .bool _) rfl) ?_
        refine wW rfl (rfl) ?_
        have ew : checkLinkM m m.links[i] = 3 := by rw [checkLinkM, if_pos e1']
        refine qE ?_
        refine qB rfl ?_
        refine qA (qD (v := .int .i64 _) rfl) ?_
        refine qQ ?_
        refine qM (vs := [_]) Tryz.results56 ⟨qJ rfl rfl, trivial⟩ fun V => ?_
        refine ⟨(zL (zL (zL (zL E_k E_j) E_i) E1) (qR V)), intE ?_⟩
        rw [CL, zG hkl L2 (by rw [ew]; decide), ew]
      ·skip
       have hke : i = m.links.length := by have := geI hk3; omega
       subst hke
       rw [List.take_length] at L2
       refine wS ?_
       refine qE ?_
       refine qB rfl ?_
       refine qA (qD (v := .int .i64 _) rfl) ?_
       refine qQ ?_
       refine qM (vs := [_]) Tryz.results56 ⟨qJ rfl rfl, trivial⟩ fun V => ?_
       exact ⟨(zL (zL (zL E_k E_j) E_i) (qR V)), intE (by rw [CL, L2])⟩
set_option maxHeartbeats 4000000 in
theorem CheckG_ok (m : MachP) (AB AQ AL AW : Option Addr) (cB cQ cL cW : Nat) (h : AH) (R : MachR h AB AQ AL AW m) (h0 : m.weights.length < 2 ^ 40) (h1 : m.buttons.length < 2 ^ 40) (h2 : m.pins.length < 2 ^ 40) (h3 : m.links.length < 2 ^ 40) :
  FnT Tryz.prog 31 #[machV AB AQ AL AW cB cQ cL cW m] h (fun v _ => v = .int .i64 (chkM m)) := by
 refine wH Tryz.func31 rfl Tryz.ntmps31 rfl ?_
 refine qE ?_
 refine qB rfl ?_
 refine op_box (v := .agg #[.int .i64 _, .int .i64 _, .int .i64 _, .int .i64 _, .int .i64 _, .slice _ _ _, .slice _ _ _, .slice _ _ _, .slice _ _ _]) (cs := [_, _, _, _, _, _, _, _, _]) rfl rfl fun b1 hb1 => ?_
 refine qN [_] rfl ?_
 refine qA (qD (v := .int .i64 _) rfl) ?_
 refine qE ?_
 refine qE ?_
 refine qB rfl ?_
 refine qA (qG rfl rfl rfl rfl 0 rfl) ?_
 refine qL 0 (v := .int .i64 _) rfl rfl rfl rfl ?_
 refine wJ (caps := []) (vs := [.int .i64 _, .int .i64 _, .int .i64 _]) rfl rfl rfl (among_ok _ _ _ h) ?_
 rintro _ h4 E4 rfl
 rcases Bool.eq_false_or_eq_true (inM m.rods 1 6) with e1 | e1
 ·skip
  have e1' : (!inM m.rods 1 6) = false := by rw [e1]; rfl
  refine qA (qK (v := .bool _) rfl) ?_
  refine qA (qC (v := .bool _) rfl) ?_
  refine qF rfl e1' ?_
  refine qA (qG rfl rfl rfl rfl 1 rfl) ?_
  refine qF rfl e1' ?_
  refine qL 0 (v := .int .i64 _) rfl rfl rfl rfl ?_
  refine qF rfl e1' ?_
  refine wJ (caps := []) (vs := [.int .i64 _, .int .i64 _, .int .i64 _]) rfl rfl rfl (among_ok _ _ _ h4) ?_
  rintro _ h5 E5 rfl
  rcases Bool.eq_false_or_eq_true (inM m.levers 1 6) with e2 | e2
  ·skip
   have e2' : (!inM m.levers 1 6) = false := by rw [e2]; rfl
   refine qF rfl e1' ?_
   refine qA (qK (v := .bool _) rfl) ?_
   refine qA (wI rfl e1' (v := .bool _) rfl) ?_
   refine qA (qC (v := .bool _) rfl) ?_
   refine qF rfl e2' ?_
   refine qA (qG rfl rfl rfl rfl 2 rfl) ?_
   refine qF rfl e2' ?_
   refine qL 0 (v := .int .i64 _) rfl rfl rfl rfl ?_
   refine qF rfl e2' ?_
   refine wJ (caps := []) (vs := [.int .i64 _, .int .i64 _, .int .i64 _]) rfl rfl rfl (among_ok _ _ _ h5) ?_
   rintro _ h6 E6 rfl
   rcases Bool.eq_false_or_eq_true (inM m.regs 0 2) with e3 | e3
   ·skip
    have e3' : (!inM m.regs 0 2) = false := by rw [e3]; rfl
    refine qF rfl e2' ?_
    refine qA (qK (v := .bool _) rfl) ?_
    refine qA (wI rfl e2' (v := .bool _) rfl) ?_
    refine qA (qC (v := .bool _) rfl) ?_
    refine qF rfl e3' ?_
    refine qA (qG rfl rfl rfl rfl 3 rfl) ?_
    refine qF rfl e3' ?_
    refine qL 0 (v := .int .i64 _) rfl rfl rfl rfl ?_
    refine qF rfl e3' ?_
    refine wJ (caps := []) (vs := [.int .i64 _, .int .i64 _, .int .i64 _]) rfl rfl rfl (among_ok _ _ _ h6) ?_
    rintro _ h7 E7 rfl
    rcases Bool.eq_false_or_eq_true (inM m.travel 1 12) with e4 | e4
    ·skip
     have e4' : (!inM m.travel 1 12) = false := by rw [e4]; rfl
     refine qF rfl e3' ?_
     refine qA (qK (v := .bool _) rfl) ?_
     refine qA (wI rfl e3' (v := .bool _) rfl) ?_
     refine qA (qC (v := .bool _) rfl) ?_
     refine qF rfl e4' ?_
     refine qA (qG rfl rfl rfl rfl 4 rfl) ?_
     refine qF rfl e4' ?_
     refine qL 0 (v := .int .i64 _) rfl rfl rfl rfl ?_
     refine qF rfl e4' ?_
     refine qA (qG rfl rfl rfl rfl 3 rfl) ?_
     refine qF rfl e4' ?_
     refine qL 0 (v := .int .i64 _) rfl rfl rfl rfl ?_
     refine qF rfl e4' ?_
     refine wJ (caps := []) (vs := [.int .i64 _, .int .i64 _, .int .i64 _]) rfl rfl rfl (among_ok _ _ _ h7) ?_
     rintro _ h8 E8 rfl
     refine qF rfl e4' ?_
     refine qA (qK (v := .bool _) rfl) ?_
     refine qA (wI rfl e4' (v := .bool _) rfl) ?_
     refine qP rfl (fun hh => ?_) (fun hh => ?_)
     ·skip
      refine qE ?_
      refine qB rfl ?_
      refine qA (qD (v := .int .i64 _) rfl) ?_
      refine qQ ?_
      refine qM (vs := [_]) Tryz.results31 ⟨qJ rfl rfl, trivial⟩ fun V => ?_
      exact ⟨(zL (zL (zL (zL (zL E4 E5) E6) E7) E8) (qR V)), intE (by unfold chkM; rw [if_neg (by rw [e1']; decide), if_neg (by rw [e2']; decide), if_neg (by rw [e3']; decide), if_neg (by rw [e4']; decide), if_pos hh])⟩
     ·skip
      have e5 : inM m.opn 1 m.travel = true := by simpa using hh
      have C1 := chk_head e1 e2 e3 e4 e5
      have b1 := inM_iff.1 e1
      have b2 := inM_iff.1 e2
      have b3 := inM_iff.1 e3
      have b4 := inM_iff.1 e4
      refine qO ?_
      refine qE ?_
      refine qE ?_
      refine qB rfl ?_
      refine wO 0 (vs := [.int .i64 _, .int .i64 _, .int .i64 _, .int .i64 _, .int .i64 _, .slice _ _ _, .slice _ _ _, .slice _ _ _, .slice _ _ _]) rfl rfl rfl rfl rfl ?_
      refine wJ (caps := []) (vs := [.agg #[.int .i64 _, .int .i64 _, .int .i64 _, .int .i64 _, .int .i64 _, .slice _ _ _, .slice _ _ _, .slice _ _ _, .slice _ _ _]]) rfl rfl rfl (checkPartsG_ok m b1 b2 b3 b4 AB AQ AL AW cB cQ cL cW h8 (R.ext (zL (zL (zL (zL E4 E5) E6) E7) E8)) h1 h2 h3) ?_
      rintro _ h9 E9 rfl
      refine qA (qD (v := .int .i64 _) rfl) ?_
      refine qE ?_
      refine qB rfl ?_
      refine qA (qC (v := .int .i64 _) rfl) ?_
      refine qA (qK (v := .bool _) rfl) ?_
      refine qP rfl (fun hp => ?_) (fun hp => ?_)
      ·skip
       have hp' : pk1 m ≠ 0 := by simpa using hp
       refine qE ?_
       refine qB rfl ?_
       refine qA (qC (v := .int .i64 _) rfl) ?_
       refine qA (qD (v := .int .i64 _) rfl) ?_
       refine qQ ?_
       refine qM (vs := [_]) Tryz.results31 ⟨qJ rfl rfl, trivial⟩ fun V => ?_
       exact ⟨(zL (zL (zL (zL (zL (zL E4 E5) E6) E7) E8) E9) (qR V)), intE (by rw [C1, pk_chk, if_pos hp'])⟩
      ·skip
       have hp' : ¬ pk1 m ≠ 0 := by simpa using hp
       have C4 : chkM m = chk4 m := by rw [C1, pk_chk, if_neg hp']
       refine qO ?_
       refine qE ?_
       refine qE ?_
       refine qB rfl ?_
       refine qA (qG rfl rfl rfl rfl 8 rfl) ?_
       refine qL 0 (v := .slice _ _ _) rfl rfl rfl rfl ?_
       refine qA (wP rfl rfl) ?_
       refine qA (qG rfl rfl rfl rfl 1 rfl) ?_
       refine qL 0 (v := .int .i64 _) rfl rfl rfl rfl ?_
       refine qA (qK (v := .bool _) rfl) ?_
       refine qP rfl (fun hw => ?_) (fun hw => ?_)
       ·skip
        refine qE ?_
        refine qB rfl ?_
        refine qA (qD (v := .int .i64 _) rfl) ?_
        refine qQ ?_
        refine qM (vs := [_]) Tryz.results31 ⟨qJ rfl rfl, trivial⟩ fun V => ?_
        have hw' : ¬ (m.weights.length : Int) = m.levers := by simpa using hw
        exact ⟨(zL (zL (zL (zL (zL (zL E4 E5) E6) E7) E8) E9) (qR V)), intE (by rw [C4, chk4, if_pos hw'])⟩
       ·skip
        have hw' : (m.weights.length : Int) = m.levers := by simpa using hw
        refine qO ?_
        refine qE ?_
        refine qE ?_
        refine qB rfl ?_
        refine qA (qD (v := .int .i64 _) rfl) ?_
        refine qT ?_
        refine zH [2, 4, 46, 47, 48, 49, 50, 51, 52, 53, 54, 55, 56, 57, 58, 59] 1 (α := Nat) (fun o => [(4, .int .i64 o)]) (fun o => _) (fun o h_o => o ≤ m.weights.length ∧ firstErr checkWeightM (m.weights.take o) = 0) (fun o => m.weights.length - o) (0) ⟨rfl, trivial⟩ (rfl) (⟨Nat.zero_le _, rfl⟩) ?_
        rintro o T1 h_o E_o J_o
        refine qU [_] rfl ?_
        obtain ⟨W1, W2⟩ := J_o
        refine qE ?_
        refine qE ?_
        refine qB rfl ?_
        refine qA (qC (v := .int .i64 _) rfl) ?_
        refine qA (qG rfl rfl rfl rfl 8 rfl) ?_
        refine qL 0 (v := .slice _ _ _) rfl rfl rfl rfl ?_
        refine qA (wP rfl rfl) ?_
        refine qA (qK (v := .bool _) rfl) ?_
        refine qP rfl (fun hk4 => ?_) (fun hk4 => ?_)
        ·skip
         have hkl : o < m.weights.length := ltI hk4
         obtain ⟨g, off, hA, hc⟩ := (R.w.ext (zL (zL (zL (zL (zL (zL E4 E5) E6) E7) E8) E9) E_o)).at (by omega) hkl
         refine qO ?_
         refine qE ?_
         refine qT ?_
         refine qE ?_
         refine qB rfl ?_
         refine qA (qG rfl rfl rfl rfl 8 rfl) ?_
         refine qL 0 (v := .slice _ _ _) rfl rfl rfl rfl ?_
         refine qA (qC (v := .int .i64 _) rfl) ?_
         refine qA (wD rfl hA rfl rfl rfl (by omega) (by omega)) ?_
         refine wL (v := .int .i64 _) rfl rfl ((hc) 0 _ rfl) ?_
         refine wJ (caps := []) (vs := [.int .i64 _, .int .i64 _, .int .i64 _]) rfl rfl rfl (among_ok _ _ _ h_o) ?_
         rintro _ h10 E10 rfl
         refine qA (qK (v := .bool _) rfl) ?_
         refine qP rfl (fun hz => ?_) (fun hz => ?_)
         ·skip
          have ew : checkWeightM m.weights[o] = 1 := by rw [checkWeightM, if_pos hz]
          refine qE ?_
          refine qB rfl ?_
          refine qA (qD (v := .int .i64 _) rfl) ?_
          refine qQ ?_
          refine qM (vs := [_]) Tryz.results31 ⟨qJ rfl rfl, trivial⟩ fun V => ?_
          refine ⟨(zL (zL (zL (zL (zL (zL (zL (zL E4 E5) E6) E7) E8) E9) E_o) E10) (qR V)), intE ?_⟩
          have ef := zG hkl W2 (by rw [ew]; decide)
          rw [ew] at ef
          rw [C4, chk4, if_neg (by simpa using hw'), ef]
         ·skip
          refine qO ?_
          refine qB rfl ?_
          refine qA (qC (v := .int .i64 _) rfl) ?_
          refine qA (qS rfl (by omega)) ?_
          refine qA (qD (v := .int .i64 _) rfl) ?_
          refine ⟨o + 1, ⟨rfl, trivial⟩, rfl, rfl, (zL E_o E10), fun h3 E3 => ⟨hkl, firstErr_go hkl W2 (by rw [checkWeightM, if_neg (by simpa using hz)])⟩, by first | omega | (dsimp only; omega), ?_⟩
          repeat (first | exact qW _ _ _ | refine wA (by decide) ?_ | refine qV rfl ?_ | refine wB rfl ?_)
        ·skip
         have hke : o = m.weights.length := by have := geI hk4; omega
         subst hke
         rw [List.take_length] at W2
         refine wS ?_
         refine qE ?_
         refine qB rfl ?_
         refine qA (qD (v := .int .i64 _) rfl) ?_
         refine qQ ?_
         refine qM (vs := [_]) Tryz.results31 ⟨qJ rfl rfl, trivial⟩ fun V => ?_
         exact ⟨(zL (zL (zL (zL (zL (zL (zL E4 E5) E6) E7) E8) E9) E_o) (qR V)), intE (by rw [C4, chk4, if_neg (by simpa using hw'), W2])⟩
    ·skip
     have e4' : (!inM m.travel 1 12) = true := by rw [e4]; rfl
     refine qF rfl e3' ?_
     refine qA (qK (v := .bool _) rfl) ?_
     refine qA (wI rfl e3' (v := .bool _) rfl) ?_
     refine qA (qC (v := .bool _) rfl) ?_
     refine qH rfl e4' ?_
     refine qH rfl e4' ?_
     refine qH rfl e4' ?_
     refine qH rfl e4' ?_
     refine qH rfl e4' ?_
     refine qH rfl e4' ?_
     refine qA (qZ rfl e4' (v := .bool _) rfl) ?_
     refine wW rfl (rfl) ?_
     refine qE ?_
     refine qB rfl ?_
     refine qA (qD (v := .int .i64 _) rfl) ?_
     refine qQ ?_
     refine qM (vs := [_]) Tryz.results31 ⟨qJ rfl rfl, trivial⟩ fun V => ?_
     exact ⟨(zL (zL (zL (zL E4 E5) E6) E7) (qR V)), intE (by unfold chkM; rw [if_neg (by rw [e1']; decide), if_neg (by rw [e2']; decide), if_neg (by rw [e3']; decide), if_pos e4'])⟩
   ·skip
    have e3' : (!inM m.regs 0 2) = true := by rw [e3]; rfl
    refine qF rfl e2' ?_
    refine qA (qK (v := .bool _) rfl) ?_
    refine qA (wI rfl e2' (v := .bool _) rfl) ?_
    refine qA (qC (v := .bool _) rfl) ?_
    refine qH rfl e3' ?_
    refine qH rfl e3' ?_
    refine qH rfl e3' ?_
    refine qH rfl e3' ?_
    refine qA (qZ rfl e3' (v := .bool _) rfl) ?_
    refine qA (qC (v := .bool _) rfl) ?_
    refine qH rfl rfl ?_
    refine qH rfl rfl ?_
    refine qH rfl rfl ?_
    refine qH rfl rfl ?_
    refine qH rfl rfl ?_
    refine qH rfl rfl ?_
    refine qA (qZ rfl rfl (v := .bool _) rfl) ?_
    refine wW rfl (rfl) ?_
    refine qE ?_
    refine qB rfl ?_
    refine qA (qD (v := .int .i64 _) rfl) ?_
    refine qQ ?_
    refine qM (vs := [_]) Tryz.results31 ⟨qJ rfl rfl, trivial⟩ fun V => ?_
    exact ⟨(zL (zL (zL E4 E5) E6) (qR V)), intE (by unfold chkM; rw [if_neg (by rw [e1']; decide), if_neg (by rw [e2']; decide), if_pos e3'])⟩
  ·skip
   have e2' : (!inM m.levers 1 6) = true := by rw [e2]; rfl
   refine qF rfl e1' ?_
   refine qA (qK (v := .bool _) rfl) ?_
   refine qA (wI rfl e1' (v := .bool _) rfl) ?_
   refine qA (qC (v := .bool _) rfl) ?_
   refine qH rfl e2' ?_
   refine qH rfl e2' ?_
   refine qH rfl e2' ?_
   refine qH rfl e2' ?_
   refine qA (qZ rfl e2' (v := .bool _) rfl) ?_
   refine qA (qC (v := .bool _) rfl) ?_
   refine qH rfl rfl ?_
   refine qH rfl rfl ?_
   refine qH rfl rfl ?_
   refine qH rfl rfl ?_
   refine qA (qZ rfl rfl (v := .bool _) rfl) ?_
   refine qA (qC (v := .bool _) rfl) ?_
   refine qH rfl rfl ?_
   refine qH rfl rfl ?_
   refine qH rfl rfl ?_
   refine qH rfl rfl ?_
   refine qH rfl rfl ?_
   refine qH rfl rfl ?_
   refine qA (qZ rfl rfl (v := .bool _) rfl) ?_
   refine wW rfl (rfl) ?_
   refine qE ?_
   refine qB rfl ?_
   refine qA (qD (v := .int .i64 _) rfl) ?_
   refine qQ ?_
   refine qM (vs := [_]) Tryz.results31 ⟨qJ rfl rfl, trivial⟩ fun V => ?_
   exact ⟨(zL (zL E4 E5) (qR V)), intE (by unfold chkM; rw [if_neg (by rw [e1']; decide), if_pos e2'])⟩
 ·skip
  have e1' : (!inM m.rods 1 6) = true := by rw [e1]; rfl
  refine qA (qK (v := .bool _) rfl) ?_
  refine qA (qC (v := .bool _) rfl) ?_
  refine qH rfl e1' ?_
  refine qH rfl e1' ?_
  refine qH rfl e1' ?_
  refine qH rfl e1' ?_
  refine qA (qZ rfl e1' (v := .bool _) rfl) ?_
  refine qA (qC (v := .bool _) rfl) ?_
  refine qH rfl rfl ?_
  refine qH rfl rfl ?_
  refine qH rfl rfl ?_
  refine qH rfl rfl ?_
  refine qA (qZ rfl rfl (v := .bool _) rfl) ?_
  refine qA (qC (v := .bool _) rfl) ?_
  refine qH rfl rfl ?_
  refine qH rfl rfl ?_
  refine qH rfl rfl ?_
  refine qH rfl rfl ?_
  refine qA (qZ rfl rfl (v := .bool _) rfl) ?_
  refine qA (qC (v := .bool _) rfl) ?_
  refine qH rfl rfl ?_
  refine qH rfl rfl ?_
  refine qH rfl rfl ?_
  refine qH rfl rfl ?_
  refine qH rfl rfl ?_
  refine qH rfl rfl ?_
  refine qA (qZ rfl rfl (v := .bool _) rfl) ?_
  refine wW rfl (rfl) ?_
  refine qE ?_
  refine qB rfl ?_
  refine qA (qD (v := .int .i64 _) rfl) ?_
  refine qQ ?_
  refine qM (vs := [_]) Tryz.results31 ⟨qJ rfl rfl, trivial⟩ fun V => ?_
  exact ⟨(zL E4 (qR V)), intE (by unfold chkM; rw [if_pos e1'])⟩
end
end Go.Proofs.YtmpahfdiebhdbaaGreatDoor
namespace Go.Proofs.YtmpahfdiebhdbaaGreatDoor
open Go Go.HL Go.Proofs Go.Wx Go.Rd
section
variable [Lvl]
set_option maxRecDepth 100000
def ChoI (P : List Int → Bool) (n : Nat) (p3 p4 p10 p11 : Nat × Obj) (b6 b7 l : Nat) (t6 t7 : TypeId) (r : Loop) (h0 : AH) (k : Nat) (h : AH) (M : Pv) : Prop :=
 Ext h0 h ∧ (∀ i s, i < k → (setsM n)[i]? = some s → P s = false) ∧
  M = [some p3, some p4, some (b6, .cells #[.slice none 0 0] t6 (0, 0)), some (b7, .cells #[.int .i64 0] t7 (0, 0)), some p10, some p11, some (l, obL r .ready none)]
def ChoF (P : List Int → Bool) (n : Nat) (p3 p4 p10 p11 : Nat × Obj) (b6 b7 l : Nat) (t6 t7 : TypeId) (r : Loop) (h0 : AH) (h : AH) (M : Pv) : Prop :=
 Ext h0 h ∧ ∃ (x : List Int) (BA : Option Addr) (cB : Nat), (setsM n).find? P = some x ∧ Row h 1 intC BA x ∧
  M = [some p3, some p4, some (b6, .cells #[.slice BA x.length cB] t6 (0, 0)), some (b7, .cells #[.int .i64 0] t7 (0, 0)), some p10, some p11, some (l, obL r .done (some .ret))]
theorem ChoI.ext {P : List Int → Bool} {n : Nat} {p3 p4 p10 p11 : Nat × Obj} {b6 b7 l : Nat} {t6 t7 : TypeId} {r : Loop} {h0 h h' : AH} {k : Nat} {M : Pv} (I : ChoI P n p3 p4 p10 p11 b6 b7 l t6 t7 r h0 k h M) (E : Ext h h') : ChoI P n p3 p4 p10 p11 b6 b7 l t6 t7 r h0 k h' M := ⟨I.1.trans E, I.2⟩
theorem ChoF.ext {P : List Int → Bool} {n : Nat} {p3 p4 p10 p11 : Nat × Obj} {b6 b7 l : Nat} {t6 t7 : TypeId} {r : Loop} {h0 h h' : AH} {M : Pv} (I : ChoF P n p3 p4 p10 p11 b6 b7 l t6 t7 r h0 h M) (E : Ext h h') : ChoF P n p3 p4 p10 p11 b6 b7 l t6 t7 r h0 h' M := by
 obtain ⟨E0, x, BA, cB, e1, R1, e2⟩ := I
 exact ⟨E0.trans E, x, BA, cB, e1, R1.ext E, e2⟩
end
end Go.Proofs.YtmpahfdiebhdbaaGreatDoor
namespace Go.Proofs.YtmpahfdiebhdbaaGreatDoor
open Go Go.HL Go.Proofs Go.Wx Go.Rd
section
variable [Lvl]
set_option maxRecDepth 100000
end
end Go.Proofs.YtmpahfdiebhdbaaGreatDoor
namespace Go.Proofs.YtmpahfdiebhdbaaGreatDoor
open Go Go.HL Go.Proofs Go.Wx Go.Rd
section
variable [Lvl]
set_option maxRecDepth 100000
end
end Go.Proofs.YtmpahfdiebhdbaaGreatDoor
namespace Go.Proofs.YtmpahfdiebhdbaaGreatDoor
open Go Go.HL Go.Proofs Go.Wx Go.Rd
section
variable [Lvl]
set_option maxRecDepth 100000
end
end Go.Proofs.YtmpahfdiebhdbaaGreatDoor
namespace Go.Proofs.YtmpahfdiebhdbaaGreatDoor
open Go Go.HL Go.Proofs Go.Wx Go.Rd
section
variable [Lvl]
set_option maxRecDepth 100000
end
end Go.Proofs.YtmpahfdiebhdbaaGreatDoor
namespace Go.Proofs.YtmpahfdiebhdbaaGreatDoor
open Go Go.HL Go.Proofs Go.Wx Go.Rd
section
variable [Lvl]
set_option maxRecDepth 100000
theorem flat_take {α : Type} (enc : α → List Value) (l : List α) (k : Nat) : (l.take k).flatMap enc = (l.flatMap enc).take ((l.take k).flatMap enc).length := by
 have e : l.flatMap enc = (l.take k).flatMap enc ++ (l.drop k).flatMap enc := by rw [← List.flatMap_append, List.take_append_drop]
 rw [e, List.take_left']
 rfl
end
end Go.Proofs.YtmpahfdiebhdbaaGreatDoor
namespace Go.Rd
open Go Go.HL Go.Wx
variable [Lvl]
structure Mut (m m' : MachP) : Prop where
 lv : m'.levers = m.levers
 op : m'.opn = m.opn
 tv : m'.travel = m.travel
 bt : m'.buttons = m.buttons
 p1 : ∀ p ∈ m'.pins, p ∈ m.pins
 p2 : ∀ p ∈ m.pins, p.lag = m.travel ∨ p ∈ m'.pins
 l1 : ∀ l ∈ m'.links, l ∈ m.links
 l2 : ∀ l ∈ m.links, l.lag = m.travel ∨ l ∈ m'.links
end Go.Rd
namespace Go.Proofs.YtmpahfdiebhdbaaGreatDoor
open Go Go.HL Go.Proofs Go.Wx Go.Rd
section
variable [Lvl]
set_option maxRecDepth 100000
end
end Go.Proofs.YtmpahfdiebhdbaaGreatDoor
namespace Go.Proofs.YtmpahfdiebhdbaaGreatDoor
open Go Go.HL Go.Proofs Go.Wx Go.Rd
section
variable [Lvl]
set_option maxRecDepth 100000
end
end Go.Proofs.YtmpahfdiebhdbaaGreatDoor
namespace Go.Proofs.YtmpahfdiebhdbaaGreatDoor
open Go Go.HL Go.Proofs Go.Wx Go.Rd
section
variable [Lvl]
set_option maxRecDepth 100000
end
end Go.Proofs.YtmpahfdiebhdbaaGreatDoor
namespace Go.Rd
open Go Go.HL Go.Wx
variable [Lvl]
end Go.Rd
namespace Go.Proofs.YtmpahfdiebhdbaaGreatDoor
open Go Go.HL Go.Proofs Go.Wx Go.Rd
section
variable [Lvl]
set_option maxRecDepth 100000
structure Sml (m : MachP) : Prop where
 b : m.buttons.length < 2 ^ 20
 q : m.pins.length < 2 ^ 20
 l : m.links.length < 2 ^ 20
 w : m.weights.length < 2 ^ 20
structure SmlH (a : HandP) : Prop where
 b : a.buttons.length < 2 ^ 20
 o : a.on.length < 2 ^ 20
theorem CheckS_ok (m : MachP) (S : Sml m) (AB AQ AL AW : Option Addr) (cB cQ cL cW : Nat) (h : AH) (R : MachR h AB AQ AL AW m) :
  FnT Tryz.prog 31 #[machV AB AQ AL AW cB cQ cL cW m] h (fun v _ => v = .int .i64 (chkM m)) :=
 CheckG_ok m AB AQ AL AW cB cQ cL cW h R (Nat.lt_trans S.w (by decide)) (Nat.lt_trans S.b (by decide)) (Nat.lt_trans S.q (by decide)) (Nat.lt_trans S.l (by decide))
end
end Go.Proofs.YtmpahfdiebhdbaaGreatDoor
namespace Go.Proofs.YtmpahfdiebhdbaaGreatDoor
open Go Go.HL Go.Proofs Go.Wx Go.Rd
theorem rowR_all {first : Bool} {at_ : Int} {m : MachP} {row w : List UInt8} {wr : List (List UInt8)} (hs : splitL 47 row = w :: wr) : rowR first at_ m row = match numsR (belR w) (kindR w).2 wr with | none => none | some l => if (kindR w).1 < at_ ∨ at_ = 5 ∨ decide ((kindR w).1 = 0) ≠ first then none else some ((kindR w).1, takeM m (kindR w).1 l) := by
 unfold rowR
 rw [hs]
 rfl
theorem kind_many (w : List UInt8) : (kindR w).2 ≤ 5 := by
 unfold kindR
 repeat (first | decide | split)
section
variable [Lvl]
set_option maxRecDepth 100000
set_option maxHeartbeats 4000000 in
theorem ReadR_ok (t : List UInt8) (h : AH) : FnT Tryz.prog 13 #[.string (bs t)] h (fun v h' => ReadV h' t v) := by
 refine wH Tryz.func13 rfl Tryz.ntmps13 rfl ?_
 refine qE ?_
 refine qB rfl ?_
 refine zE (cs := [_, _, _, _, _, _, _, _, _]) rfl rfl fun b2 hb2 => ?_
 refine qN [_] rfl ?_
 refine qA (qD (v := .int .i64 _) rfl) ?_
 refine qA (qD (v := .int .i64 _) rfl) ?_
 refine qE ?_
 refine qE ?_
 refine qB rfl ?_
 refine qA (qC (v := .string _) rfl) ?_
 refine qA (zF rfl rfl) ?_
 refine qA (qK (v := .bool _) rfl) ?_
 refine qP rfl (fun hlen => ?_) (fun hlen => ?_)
 ·skip
  have hlen' : t.length > 400 := by have := of_decide_eq_true hlen; omega
  refine qE ?_
  refine qB rfl ?_
  refine qA (zC (zc := [_, _, _, _, _, _, _, _, _]) (vs := []) (cs := [_, _, _, _, _, _, _, _, _]) rfl rfl rfl rfl rfl rfl) ?_
  refine qY 0 (v := .agg #[.int .i64 _, .int .i64 _, .int .i64 _, .int .i64 _, .int .i64 _, .slice _ _ _, .slice _ _ _, .slice _ _ _, .slice _ _ _]) (vs := [_, _, _, _, _, _, _, _, _]) (c' := [_, _, _, _, _, _, _, _, _]) rfl rfl rfl rfl rfl rfl rfl rfl rfl ?_
  refine qN [_] rfl ?_
  refine qA (qD (v := .int .i64 _) rfl) ?_
  refine qA (qD (v := .int .i64 _) rfl) ?_
  refine qQ ?_
  refine qM (vs := [_, _, _]) Tryz.results13 ⟨resV_agg 0 rfl rfl rfl rfl rfl (vs := [.int .i64 _, .int .i64 _, .int .i64 _, .int .i64 _, .int .i64 _, .slice _ _ _, .slice _ _ _, .slice _ _ _, .slice _ _ _]) rfl, qJ rfl rfl, qJ rfl rfl, trivial⟩ fun V => ?_
  exact ⟨(qR V), readV_of (readM_long hlen') (machV0 _)⟩
 ·skip
  have hlen' : ¬ t.length > 400 := by have := of_decide_eq_false hlen; omega
  obtain ⟨rows, hrows⟩ : ∃ rows, rows = splitL 10 t := ⟨_, rfl⟩
  have hrl : rows.length = cntB 10 t + 1 := by rw [hrows]; exact splitL_len 10 t
  have hcl := cnt_le 10 t
  have hdl : rows.dropLast.length = rows.length - 1 := List.length_dropLast ..
  have hrn : ∀ r ∈ rows, r.length ≤ 400 := fun r hr => by
   rw [hrows] at hr
   have := split_len r hr
   omega
  refine qO ?_
  refine qE ?_
  refine qB rfl ?_
  refine qA (qC (v := .string _) rfl) ?_
  refine wJ (caps := []) (vs := [.string _, .int .u8 _]) rfl rfl rfl (splitR_ok t 10 h (by omega)) ?_
  rintro _ h1 E1 ⟨AR, cR, rfl, RR, hcR⟩
  rw [← hrows] at RR hcR ⊢
  refine qA (qD (v := .slice _ _ _) rfl) ?_
  refine qE ?_
  refine qB rfl ?_
  refine zE (cs := [_, _, _, _, _, _, _, _, _]) rfl rfl fun b6 hb6 => ?_
  refine qN [_, _] rfl ?_
  refine qE ?_
  refine qB rfl ?_
  refine qA (qD (v := .int .i64 _) rfl) ?_
  refine goes_more ?_
  refine qU [_, _, _] rfl ?_
  refine goes_more ?_
  refine qU [_, _, _, _] rfl ?_
  refine goes_more ?_
  refine qU [_, _, _, _, _] rfl ?_
  refine goes_more ?_
  refine qU [_, _, _, _, _, _] rfl ?_
  refine qE ?_
  refine qE ?_
  refine qB rfl ?_
  refine qA (qD (v := .int .i64 _) rfl) ?_
  refine qT ?_
  refine xp_loopL [3, 4, 7, 8, 9, 10, 11, 12, 13, 21, 22, 23, 24, 25, 26, 27, 28, 29, 30, 31, 32, 33, 34, 35, 36, 37, 38, 39, 40, 41, 42, 43, 44, 45, 46, 47, 48, 49, 50, 51, 52, 53, 54, 55, 56, 57, 58, 59, 60, 61, 62, 63, 64, 65, 66, 67, 68, 69, 70, 71, 72, 73, 74, 75, 76] 6 (α := Nat × Int × MachP × MAcc) (fun ⟨k, a_, m, x⟩ => [(8, .int .i64 k), (7, .int .i64 a_)]) (fun ⟨k, a_, m, x⟩ L => ((((L.set 1 (some (b6, .cells (mCells m x).toArray 26 (0, 0)))).set 2 (x.aB.p)).set 3 (x.aQ.p)).set 4 (x.aL.p)).set 5 (x.aW.p)) (fun ⟨k, a_, m, x⟩ h_k => k ≤ rows.length - 1 ∧ goR 0 (-1) m0 rows.dropLast = goR k a_ m (rows.dropLast.drop k) ∧ (k = 0 ↔ a_ = -1) ∧ (-1 ≤ a_ ∧ a_ ≤ 5) ∧ AccM m x ∧ LenM m k) (fun ⟨k, a_, m, x⟩ => rows.length - 1 - k) ((0, -1, m0, acc4)) ⟨rfl, rfl, trivial⟩ (rfl) (⟨Nat.zero_le _, rfl, by decide, by decide, ⟨accR0, accR0, accR0, accR0⟩, ⟨Nat.zero_le _, Nat.zero_le _, Nat.zero_le _, Nat.zero_le _⟩⟩) ?_
  rintro ⟨k, a_, m, x⟩ T1 h_k E_k J_k
  refine qU [_, _, _, _, _, _] rfl ?_
  obtain ⟨K1, K2, K3, K4, KA, KL⟩ := J_k
  refine qE ?_
  refine qE ?_
  refine qB rfl ?_
  refine qA (qC (v := .int .i64 _) rfl) ?_
  refine qA (qC (v := .slice _ _ _) rfl) ?_
  refine qA (wP rfl rfl) ?_
  refine qA (qS rfl (by omega)) ?_
  refine qA (qK (v := .bool _) rfl) ?_
  refine qP rfl (fun hk => ?_) (fun hk => ?_)
  ·skip
   have hkl : k < rows.length - 1 := by have := of_decide_eq_true hk; omega
   have hkr : k < rows.length := by omega
   have hkd : k < rows.dropLast.length := by omega
   have hge : rows.dropLast[k] = rows[k] := List.getElem_dropLast ..
   have hrk := hrn _ (List.getElem_mem hkr)
   rw [List.drop_eq_getElem_cons hkd, hge] at K2
   obtain ⟨w0, wr, hws⟩ : ∃ w0 wr, splitL 47 rows[k] = w0 :: wr := by
    cases q : splitL 47 rows[k] with
    | nil => exact absurd q (splitL_ne 47 _)
    | cons w0 wr => exact ⟨w0, wr, rfl⟩
   have hwl := splitL_len 47 rows[k]
   have hwc := cnt_le 47 rows[k]
   rw [hws, List.length_cons] at hwl
   obtain ⟨g, off, hA, hc⟩ := (RR.ext E_k).at (by decide) hkr
   refine qO ?_
   refine qE ?_
   refine qT ?_
   refine qE ?_
   refine qB rfl ?_
   refine qA (qC (v := .slice _ _ _) rfl) ?_
   refine qA (qC (v := .int .i64 _) rfl) ?_
   refine qA (wD rfl hA rfl rfl rfl (by omega) (by omega)) ?_
   refine wL (v := .string _) rfl rfl ((hc) 0 _ rfl) ?_
   refine wJ (caps := []) (vs := [.string _, .int .u8 _]) rfl rfl rfl (splitR_ok rows[k] 47 h_k (by omega)) ?_
   rintro _ h2 E2 ⟨AW, cW, rfl, RW, hcW⟩
   rw [hws] at RW hcW ⊢
   obtain ⟨g0, f0, hA0, hc0⟩ := RW.at (by decide) (i := 0) (by simp)
   have RT := row_tail RW (by simpa using hcW)
   have hwl2 : (w0 :: wr).length = wr.length + 1 := rfl
   have hro := rowR_all (first := decide (k = 0)) (at_ := a_) (m := m) hws
   have hkr2 := kind_rng w0
   have hkm := kind_many w0
   refine qA (qD (v := .slice _ _ _) rfl) ?_
   refine qE ?_
   refine qB rfl ?_
   refine qA (qC (v := .slice _ _ _) rfl) ?_
   refine qA (wD rfl hA0 rfl rfl rfl (by simp) (by rw [hwl2]; push_cast; omega)) ?_
   refine wL (v := .string (bs w0)) rfl rfl ((hc0.ext (Ext.refl _)) 0 _ rfl) ?_
   refine wJ (caps := []) (vs := [.string _]) rfl rfl rfl (kindR_ok w0 h2) ?_
   rintro _ h3 E3 rfl
   refine qA (qC (v := .tuple #[.int .i64 _, .int .i64 _]) rfl) ?_
   refine qA (qK (v := .int .i64 _) rfl) ?_
   refine qA (qK (v := .int .i64 _) rfl) ?_
   refine qA (qD (v := .int .i64 _) rfl) ?_
   refine qA (qD (v := .int .i64 _) rfl) ?_
   refine qE ?_
   refine xp_dw [] rfl rfl rfl ?_
   refine qI (i := 0) rfl (by decide +kernel) (qC (v := .slice _ _ _) rfl) ?_
   refine qI (i := 1) rfl (by decide +kernel) (wD rfl hA0 rfl rfl rfl (by simp) (by rw [hwl2]; push_cast; omega)) ?_
   refine wE (i := 2) rfl (by decide +kernel) ?_
   refine wL (v := .string (bs w0)) rfl rfl ((hc0.ext E3) 0 _ rfl) ?_
   refine qI (i := 3) rfl (by decide +kernel) (qC (v := .slice _ _ _) rfl) ?_
   refine qI (i := 4) rfl (by decide +kernel) (pv_sliceLoS (m := 1) 1 (l' := wr.length) (c' := cW - 1) (A' := if cW = 1 then AW else AW.map (·.add (1 * 1))) rfl rfl rfl rfl rfl (by omega) (by omega) rfl (by omega) rfl) ?_
   refine qI (i := 5) rfl (by decide +kernel) (qC (v := .int .i64 _) rfl) ?_
   refine wV (i := 6) rfl (by decide +kernel) (by decide +kernel) ?_
   refine wJ (caps := []) (vs := [.string _, .slice _ _ _, .int .i64 _]) rfl rfl rfl (numbersR_ok w0 wr (kindR w0).2 _ _ h3 (RT.ext E3) (by omega) (by omega)) ?_
   rintro _ h4 E4 ⟨A4, n4, c4, rfl, hR⟩
   refine qI (i := 7) rfl (by decide +kernel) (qC (v := .tuple #[.slice _ _ _, .bool _]) rfl) ?_
   refine qI (i := 8) rfl (by decide +kernel) (qK (v := .slice _ _ _) rfl) ?_
   refine qI (i := 9) rfl (by decide +kernel) (qK (v := .bool _) rfl) ?_
   refine qI (i := 10) rfl (by decide +kernel) (qD (v := .slice _ _ _) rfl) ?_
   refine qI (i := 11) rfl (by decide +kernel) (qD (v := .bool _) rfl) ?_
   refine zI rfl ?_
   refine qE ?_
   cases q : numsR (belR w0) (kindR w0).2 wr with
   | none =>
    rw [q] at hro
    refine qE ?_
    refine qB rfl ?_
    refine qA (qC (v := .bool _) rfl) ?_
    refine qA (qK (v := .bool _) rfl) ?_
    refine qA (qC (v := .bool _) rfl) ?_
    refine qH rfl rfl ?_
    refine qH rfl rfl ?_
    refine qH rfl rfl ?_
    refine qA (qZ rfl rfl (v := .bool _) rfl) ?_
    refine qA (qC (v := .bool _) rfl) ?_
    refine qH rfl rfl ?_
    refine qH rfl rfl ?_
    refine qA (qZ rfl rfl (v := .bool _) rfl) ?_
    refine qA (qC (v := .bool _) rfl) ?_
    refine qH rfl rfl ?_
    refine qH rfl rfl ?_
    refine qH rfl rfl ?_
    refine qH rfl rfl ?_
    refine qH rfl rfl ?_
    refine qA (qZ rfl rfl (v := .bool _) rfl) ?_
    refine wW rfl (rfl) ?_
    refine qE ?_
    refine qB rfl ?_
    refine qA (zC (zc := [_, _, _, _, _, _, _, _, _]) (vs := []) (cs := [_, _, _, _, _, _, _, _, _]) rfl rfl rfl rfl rfl rfl) ?_
    refine qA (qC (v := .int .i64 _) rfl) ?_
    refine qA (qS rfl (by omega)) ?_
    refine qY 0 (v := .agg #[.int .i64 _, .int .i64 _, .int .i64 _, .int .i64 _, .int .i64 _, .slice _ _ _, .slice _ _ _, .slice _ _ _, .slice _ _ _]) (vs := [_, _, _, _, _, _, _, _, _]) (c' := [_, _, _, _, _, _, _, _, _]) rfl rfl rfl rfl rfl rfl rfl rfl rfl ?_
    refine qN [_, _, _, _, _, _] rfl ?_
    refine qA (qD (v := .int .i64 _) rfl) ?_
    refine qA (qD (v := .int .i64 _) rfl) ?_
    refine qQ ?_
    refine qM (vs := [_, _, _]) Tryz.results13 ⟨resV_agg 0 rfl rfl rfl rfl rfl (vs := [.int .i64 _, .int .i64 _, .int .i64 _, .int .i64 _, .int .i64 _, .slice _ _ _, .slice _ _ _, .slice _ _ _, .slice _ _ _]) rfl, qJ rfl rfl, qJ rfl rfl, trivial⟩ fun V => ?_
    exact ⟨(zL (zL (zL (zL (zL E1 E_k) E2) E3) E4) (qR V)), readV_of (readM_badI hlen' (by rw [← hrows, K2]; exact goR_stop hro)) (machV0 _)⟩
   | some l =>
    obtain ⟨rfl, R4⟩ := hR l q
    rw [q] at hro
    have hll : l.length = (kindR w0).2 := by
     unfold numsR at q
     split at q
     ·rename_i hq; rw [numsFrom_len q, hq]
     ·cases q
    by_cases c1 : (kindR w0).1 < a_
    ·have g1 : decide ((kindR w0).1 < a_) = true := decide_eq_true c1
     refine qE ?_
     refine qB rfl ?_
     refine qA (qC (v := .bool _) rfl) ?_
     refine qA (qK (v := .bool _) rfl) ?_
     refine qA (qC (v := .bool _) rfl) ?_
     refine qF rfl rfl ?_
     refine qA (qC (v := .int .i64 _) rfl) ?_
     refine qF rfl rfl ?_
     refine qA (qC (v := .int .i64 _) rfl) ?_
     refine qF rfl rfl ?_
     refine qA (qK (v := .bool _) rfl) ?_
     refine qA (wI rfl rfl (v := .bool _) rfl) ?_
     refine qA (qC (v := .bool _) rfl) ?_
     refine qH rfl g1 ?_
     refine qH rfl g1 ?_
     refine qA (qZ rfl g1 (v := .bool _) rfl) ?_
     refine qA (qC (v := .bool _) rfl) ?_
     refine qH rfl rfl ?_
     refine qH rfl rfl ?_
     refine qH rfl rfl ?_
     refine qH rfl rfl ?_
     refine qH rfl rfl ?_
     refine qA (qZ rfl rfl (v := .bool _) rfl) ?_
     refine wW rfl (rfl) ?_
     refine qE ?_
     refine qB rfl ?_
     refine qA (zC (zc := [_, _, _, _, _, _, _, _, _]) (vs := []) (cs := [_, _, _, _, _, _, _, _, _]) rfl rfl rfl rfl rfl rfl) ?_
     refine qA (qC (v := .int .i64 _) rfl) ?_
     refine qA (qS rfl (by omega)) ?_
     refine qY 0 (v := .agg #[.int .i64 _, .int .i64 _, .int .i64 _, .int .i64 _, .int .i64 _, .slice _ _ _, .slice _ _ _, .slice _ _ _, .slice _ _ _]) (vs := [_, _, _, _, _, _, _, _, _]) (c' := [_, _, _, _, _, _, _, _, _]) rfl rfl rfl rfl rfl rfl rfl rfl rfl ?_
     refine qN [_, _, _, _, _, _] rfl ?_
     refine qA (qD (v := .int .i64 _) rfl) ?_
     refine qA (qD (v := .int .i64 _) rfl) ?_
     refine qQ ?_
     refine qM (vs := [_, _, _]) Tryz.results13 ⟨resV_agg 0 rfl rfl rfl rfl rfl (vs := [.int .i64 _, .int .i64 _, .int .i64 _, .int .i64 _, .int .i64 _, .slice _ _ _, .slice _ _ _, .slice _ _ _, .slice _ _ _]) rfl, qJ rfl rfl, qJ rfl rfl, trivial⟩ fun V => ?_
     exact ⟨(zL (zL (zL (zL (zL E1 E_k) E2) E3) E4) (qR V)), readV_of (readM_badI hlen' (by rw [← hrows, K2]; exact goR_stop (hro.trans (if_pos (.inl c1))))) (machV0 _)⟩
    ·skip
     have g1 : decide ((kindR w0).1 < a_) = false := decide_eq_false c1
     by_cases c2 : a_ = 5
     ·have g2 : (a_ == 5) = true := by rw [c2]; rfl
      refine qE ?_
      refine qB rfl ?_
      refine qA (qC (v := .bool _) rfl) ?_
      refine qA (qK (v := .bool _) rfl) ?_
      refine qA (qC (v := .bool _) rfl) ?_
      refine qF rfl rfl ?_
      refine qA (qC (v := .int .i64 _) rfl) ?_
      refine qF rfl rfl ?_
      refine qA (qC (v := .int .i64 _) rfl) ?_
      refine qF rfl rfl ?_
      refine qA (qK (v := .bool _) rfl) ?_
      refine qA (wI rfl rfl (v := .bool _) rfl) ?_
      refine qA (qC (v := .bool _) rfl) ?_
      refine qF rfl g1 ?_
      refine qA (qC (v := .int .i64 _) rfl) ?_
      refine qF rfl g1 ?_
      refine qA (qK (v := .bool _) rfl) ?_
      refine qA (wI rfl g1 (v := .bool _) rfl) ?_
      refine qA (qC (v := .bool _) rfl) ?_
      refine qH rfl g2 ?_
      refine qH rfl g2 ?_
      refine qH rfl g2 ?_
      refine qH rfl g2 ?_
      refine qH rfl g2 ?_
      refine qA (qZ rfl g2 (v := .bool _) rfl) ?_
      refine wW rfl (rfl) ?_
      refine qE ?_
      refine qB rfl ?_
      refine qA (zC (zc := [_, _, _, _, _, _, _, _, _]) (vs := []) (cs := [_, _, _, _, _, _, _, _, _]) rfl rfl rfl rfl rfl rfl) ?_
      refine qA (qC (v := .int .i64 _) rfl) ?_
      refine qA (qS rfl (by omega)) ?_
      refine qY 0 (v := .agg #[.int .i64 _, .int .i64 _, .int .i64 _, .int .i64 _, .int .i64 _, .slice _ _ _, .slice _ _ _, .slice _ _ _, .slice _ _ _]) (vs := [_, _, _, _, _, _, _, _, _]) (c' := [_, _, _, _, _, _, _, _, _]) rfl rfl rfl rfl rfl rfl rfl rfl rfl ?_
      refine qN [_, _, _, _, _, _] rfl ?_
      refine qA (qD (v := .int .i64 _) rfl) ?_
      refine qA (qD (v := .int .i64 _) rfl) ?_
      refine qQ ?_
      refine qM (vs := [_, _, _]) Tryz.results13 ⟨resV_agg 0 rfl rfl rfl rfl rfl (vs := [.int .i64 _, .int .i64 _, .int .i64 _, .int .i64 _, .int .i64 _, .slice _ _ _, .slice _ _ _, .slice _ _ _, .slice _ _ _]) rfl, qJ rfl rfl, qJ rfl rfl, trivial⟩ fun V => ?_
      exact ⟨(zL (zL (zL (zL (zL E1 E_k) E2) E3) E4) (qR V)), readV_of (readM_badI hlen' (by rw [← hrows, K2]; exact goR_stop (hro.trans (if_pos (.inr (.inl c2)))))) (machV0 _)⟩
     ·skip
      have g2 : (a_ == 5) = false := by simpa using c2
      refine qE ?_
      refine qB rfl ?_
      refine qA (qC (v := .bool _) rfl) ?_
      refine qA (qK (v := .bool _) rfl) ?_
      refine qA (qC (v := .bool _) rfl) ?_
      refine qF rfl rfl ?_
      refine qA (qC (v := .int .i64 _) rfl) ?_
      refine qF rfl rfl ?_
      refine qA (qC (v := .int .i64 _) rfl) ?_
      refine qF rfl rfl ?_
      refine qA (qK (v := .bool _) rfl) ?_
      refine qA (wI rfl rfl (v := .bool _) rfl) ?_
      refine qA (qC (v := .bool _) rfl) ?_
      refine qF rfl g1 ?_
      refine qA (qC (v := .int .i64 _) rfl) ?_
      refine qF rfl g1 ?_
      refine qA (qK (v := .bool _) rfl) ?_
      refine qA (wI rfl g1 (v := .bool _) rfl) ?_
      refine qA (qC (v := .bool _) rfl) ?_
      refine qF rfl g2 ?_
      refine qA (qC (v := .int .i64 _) rfl) ?_
      refine qF rfl g2 ?_
      refine qA (qK (v := .bool _) rfl) ?_
      refine qF rfl g2 ?_
      refine qA (qC (v := .int .i64 _) rfl) ?_
      refine qF rfl g2 ?_
      refine qA (qK (v := .bool _) rfl) ?_
      refine qF rfl g2 ?_
      refine qA (qK (v := .bool _) rfl) ?_
      refine qA (wI rfl g2 (v := .bool _) rfl) ?_
      have e1 : decide ((kindR w0).1 = 0) = ((kindR w0).1 == 0) := by rw [Bool.eq_iff_iff]; simp
      have e2 : decide (k = 0) = ((k : Int) == 0) := by rw [Bool.eq_iff_iff]; simp
      refine qP rfl (fun c3 => ?_) (fun c3 => ?_)
      ·skip
       have c3' : decide ((kindR w0).1 = 0) ≠ decide (k = 0) := by
        rw [e1, e2]
        intro e
        rw [e] at c3
        simp at c3
       refine qE ?_
       refine qB rfl ?_
       refine qA (zC (zc := [_, _, _, _, _, _, _, _, _]) (vs := []) (cs := [_, _, _, _, _, _, _, _, _]) rfl rfl rfl rfl rfl rfl) ?_
       refine qA (qC (v := .int .i64 _) rfl) ?_
       refine qA (qS rfl (by omega)) ?_
       refine qY 0 (v := .agg #[.int .i64 _, .int .i64 _, .int .i64 _, .int .i64 _, .int .i64 _, .slice _ _ _, .slice _ _ _, .slice _ _ _, .slice _ _ _]) (vs := [_, _, _, _, _, _, _, _, _]) (c' := [_, _, _, _, _, _, _, _, _]) rfl rfl rfl rfl rfl rfl rfl rfl rfl ?_
       refine qN [_, _, _, _, _, _] rfl ?_
       refine qA (qD (v := .int .i64 _) rfl) ?_
       refine qA (qD (v := .int .i64 _) rfl) ?_
       refine qQ ?_
       refine qM (vs := [_, _, _]) Tryz.results13 ⟨resV_agg 0 rfl rfl rfl rfl rfl (vs := [.int .i64 _, .int .i64 _, .int .i64 _, .int .i64 _, .int .i64 _, .slice _ _ _, .slice _ _ _, .slice _ _ _, .slice _ _ _]) rfl, qJ rfl rfl, qJ rfl rfl, trivial⟩ fun V => ?_
       exact ⟨(zL (zL (zL (zL (zL E1 E_k) E2) E3) E4) (qR V)), readV_of (readM_badI hlen' (by rw [← hrows, K2]; exact goR_stop (hro.trans (if_pos (.inr (.inr c3')))))) (machV0 _)⟩
      ·skip
       have c3' : ¬ decide ((kindR w0).1 = 0) ≠ decide (k = 0) := by
        rw [e1, e2]
        intro e
        apply e
        simpa using c3
       have hro2 := hro.trans (if_neg (by rintro (h | h | h); exact c1 h; exact c2 h; exact c3' h))
       have hk0 : 0 ≤ (kindR w0).1 := by
        rcases Int.lt_or_le (kindR w0).1 0 with h | h
        ·exfalso
         have ha1 : a_ = -1 := by omega
         have hk0 := K3.2 ha1
         apply c3'
         rw [decide_eq_false (by omega), decide_eq_true hk0]
         decide
        ·exact h
       refine qO ?_
       refine qE ?_
       refine qB rfl ?_
       refine qA (qC (v := .slice _ _ _) rfl) ?_
       refine qA (wD rfl hA0 rfl rfl rfl (by simp) (by rw [hwl2]; push_cast; omega)) ?_
       refine wL (v := .string (bs w0)) rfl rfl ((hc0.ext (zL E3 E4)) 0 _ rfl) ?_
       refine qA (qC (v := .slice _ _ _) rfl) ?_
       refine op_fnMM [_] [_, _, _, _, _] [] (vs := [.pointer _, .string _, .slice _ _ _]) rfl rfl rfl (takeR_ok b6 m x w0 l A4 c4 k h4 (R4.ext (Ext.refl _)) KA KL (by omega) hk0 hll) ?_
       rintro _ h5 _ E5 ⟨x', rfl, AM'⟩
       refine qN [_, _, _, _, _, _] rfl ?_
       refine qB rfl ?_
       refine qA (qC (v := .int .i64 _) rfl) ?_
       refine qA (qD (v := .int .i64 _) rfl) ?_
       refine qB rfl ?_
       refine qA (qC (v := .int .i64 _) rfl) ?_
       refine qA (qS rfl (by omega)) ?_
       refine qA (qD (v := .int .i64 _) rfl) ?_
       refine ⟨(k + 1, (kindR w0).1, takeM m (kindR w0).1 l, x'), ⟨rfl, rfl, trivial⟩, rfl, rfl, (zL (zL (zL (zL E_k E2) E3) E4) E5), fun h3 E3 => ⟨by omega, by rw [K2]; exact goR_next hro2, ⟨fun h => absurd h (by omega), fun h => by omega⟩, by omega, AM', takeM_len KL _ _⟩, by first | omega | (dsimp only; omega), ?_⟩
       repeat (first | exact qW _ _ _ | refine wA (by decide) ?_ | refine qV rfl ?_ | refine wB rfl ?_)
  ·skip
   have hke : k = rows.length - 1 := by have := of_decide_eq_false hk; omega
   subst hke
   have hdr : rows.dropLast.drop (rows.length - 1) = [] := List.drop_eq_nil_of_le (by omega)
   rw [hdr] at K2
   have hgo : goR 0 (-1) m0 (splitL 10 t).dropLast = (0, a_, m) := by rw [← hrows, K2]; rfl
   have hnl : rows.length - 1 < rows.length := by omega
   have hgl : (splitL 10 t).getLast? = some rows[rows.length - 1] := by rw [← hrows, List.getLast?_eq_getElem?, List.getElem?_eq_getElem hnl]
   obtain ⟨g, off, hA, hc⟩ := (RR.ext E_k).at (by decide) hnl
   refine wS ?_
   by_cases h5 : a_ = 5
   ·have hg : (a_ != 5) = false := by rw [h5]; rfl
    refine qE ?_
    refine qE ?_
    refine qB rfl ?_
    refine qA (qC (v := .int .i64 _) rfl) ?_
    refine qA (qK (v := .bool _) rfl) ?_
    refine qA (qC (v := .bool _) rfl) ?_
    refine qF rfl hg ?_
    refine qA (qC (v := .slice _ _ _) rfl) ?_
    refine qF rfl hg ?_
    refine qA (qC (v := .slice _ _ _) rfl) ?_
    refine qF rfl hg ?_
    refine qA (wP rfl rfl) ?_
    refine qF rfl hg ?_
    refine qA (qS rfl (by omega)) ?_
    refine qF rfl hg ?_
    refine qA (wD rfl hA rfl rfl rfl (by omega) (by omega)) ?_
    refine qF rfl hg ?_
    refine wL (v := .string (bs rows[rows.length - 1])) rfl rfl (by rw [show ((rows.length : Int) - 1).toNat = rows.length - 1 by omega]; exact hc 0 _ rfl) ?_
    refine qF rfl hg ?_
    refine qA (pv_strne rfl rfl) ?_
    refine qA (wI rfl hg (v := .bool _) rfl) ?_
    refine qP rfl (fun hE => ?_) (fun hE => ?_)
    ·skip
     have hE' : ¬ rows[rows.length - 1] = [] := by simpa using hE
     refine qE ?_
     refine qB rfl ?_
     refine qA (zC (zc := [_, _, _, _, _, _, _, _, _]) (vs := []) (cs := [_, _, _, _, _, _, _, _, _]) rfl rfl rfl rfl rfl rfl) ?_
     refine qA (qC (v := .slice _ _ _) rfl) ?_
     refine qA (wP rfl rfl) ?_
     refine qY 0 (v := .agg #[.int .i64 _, .int .i64 _, .int .i64 _, .int .i64 _, .int .i64 _, .slice _ _ _, .slice _ _ _, .slice _ _ _, .slice _ _ _]) (vs := [_, _, _, _, _, _, _, _, _]) (c' := [_, _, _, _, _, _, _, _, _]) rfl rfl rfl rfl rfl rfl rfl rfl rfl ?_
     refine qN [_, _, _, _, _, _] rfl ?_
     refine qA (qD (v := .int .i64 _) rfl) ?_
     refine qA (qD (v := .int .i64 _) rfl) ?_
     refine qQ ?_
     refine qM (vs := [_, _, _]) Tryz.results13 ⟨resV_agg 0 rfl rfl rfl rfl rfl (vs := [.int .i64 _, .int .i64 _, .int .i64 _, .int .i64 _, .int .i64 _, .slice _ _ _, .slice _ _ _, .slice _ _ _, .slice _ _ _]) rfl, qJ rfl rfl, qJ rfl rfl, trivial⟩ fun V => ?_
     exact ⟨(zL (zL E1 E_k) (qR V)), readV_of (readM_endI hlen' hgo (.inr (by rw [hgl]; intro e; exact hE' (Option.some.inj e))) (by rw [← hrows])) (machV0 _)⟩
    ·skip
     have hE' : rows[rows.length - 1] = [] := by simpa using hE
     have hok : ¬ (a_ ≠ 5 ∨ (splitL 10 t).getLast? ≠ some []) := by
      rintro (h | h)
      ·exact h h5
      ·exact h (by rw [hgl, hE'])
     obtain ⟨⟨pB, AB, nB, cB⟩, ⟨pQ, AQ, nQ, cQ⟩, ⟨pL, AL, nL, cL⟩, ⟨pW, AW, nW, cW⟩⟩ := x
     obtain ⟨kB, kQ, kL, kW⟩ := KA
     obtain rfl : nB = m.buttons.length := by have := AccR.len kB; rw [wU (m := 1) (fun _ _ => rfl)] at this; dsimp only at this; omega
     obtain rfl : nQ = m.pins.length := by have := AccR.len kQ; rw [wU (m := 3) (fun _ _ => rfl)] at this; dsimp only at this; omega
     obtain rfl : nL = m.links.length := by have := AccR.len kL; rw [wU (m := 4) (fun _ _ => rfl)] at this; dsimp only at this; omega
     obtain rfl : nW = m.weights.length := by have := AccR.len kW; rw [wU (m := 1) (fun _ _ => rfl)] at this; dsimp only at this; omega
     dsimp only at *
     have SM : Sml m := ⟨by have := KL.b; omega, by have := KL.q; omega, by have := KL.l; omega, by have := KL.w; omega⟩
     refine goes_pubO 2 rfl ?_
     intro gB GB PB
     refine qU [_, _, _, _, _, _] rfl ?_
     refine goes_pubO 3 rfl ?_
     intro gQ GQ PQ
     refine qU [_, _, _, _, _, _] rfl ?_
     refine goes_pubO 4 rfl ?_
     intro gL GL PL
     refine qU [_, _, _, _, _, _] rfl ?_
     refine goes_pubO 5 rfl ?_
     intro gW GW PW2
     refine qU [_, _, _, _, _, _] rfl ?_
     have RM : MachR gW AB AQ AL AW m := ⟨⟨fun _ _ => rfl, (AccR.rd kB PB).ext (zL (zL GQ GL) GW)⟩, ⟨fun _ _ => rfl, (AccR.rd kQ PQ).ext (zL GL GW)⟩, ⟨fun _ _ => rfl, (AccR.rd kL PL).ext GW⟩, ⟨fun _ _ => rfl, AccR.rd kW PW2⟩⟩
     refine qO ?_
     refine qE ?_
     refine qE ?_
     refine qB rfl ?_
     refine wO 1 (vs := [.int .i64 _, .int .i64 _, .int .i64 _, .int .i64 _, .int .i64 _, .slice _ _ _, .slice _ _ _, .slice _ _ _, .slice _ _ _]) rfl rfl rfl rfl rfl ?_
     refine wJ (caps := []) (vs := [.agg #[.int .i64 _, .int .i64 _, .int .i64 _, .int .i64 _, .int .i64 _, .slice _ _ _, .slice _ _ _, .slice _ _ _, .slice _ _ _]]) rfl rfl rfl (CheckS_ok m SM AB AQ AL AW cB cQ cL cW gW RM) ?_
     rintro _ h6 E6 rfl
     refine qA (qD (v := .int .i64 _) rfl) ?_
     refine qE ?_
     refine qB rfl ?_
     refine qA (qC (v := .int .i64 _) rfl) ?_
     refine qA (qK (v := .bool _) rfl) ?_
     refine qP rfl (fun hcc => ?_) (fun hcc => ?_)
     ·skip
      have hcc' : chkM m ≠ 0 := by simpa using hcc
      refine qE ?_
      refine qB rfl ?_
      refine qA (zC (zc := [_, _, _, _, _, _, _, _, _]) (vs := []) (cs := [_, _, _, _, _, _, _, _, _]) rfl rfl rfl rfl rfl rfl) ?_
      refine qA (qC (v := .int .i64 _) rfl) ?_
      refine qY 0 (v := .agg #[.int .i64 _, .int .i64 _, .int .i64 _, .int .i64 _, .int .i64 _, .slice _ _ _, .slice _ _ _, .slice _ _ _, .slice _ _ _]) (vs := [_, _, _, _, _, _, _, _, _]) (c' := [_, _, _, _, _, _, _, _, _]) rfl rfl rfl rfl rfl rfl rfl rfl rfl ?_
      refine qN [_, _, _, _, _, _] rfl ?_
      refine qA (qD (v := .int .i64 _) rfl) ?_
      refine qA (qD (v := .int .i64 _) rfl) ?_
      refine qQ ?_
      refine qM (vs := [_, _, _]) Tryz.results13 ⟨resV_agg 0 rfl rfl rfl rfl rfl (vs := [.int .i64 _, .int .i64 _, .int .i64 _, .int .i64 _, .int .i64 _, .slice _ _ _, .slice _ _ _, .slice _ _ _, .slice _ _ _]) rfl, qJ rfl rfl, qJ rfl rfl, trivial⟩ fun V => ?_
      exact ⟨(zL (zL (zL (zL (zL (zL (zL E1 E_k) GB) GQ) GL) GW) E6) (qR V)), readV_of (readM_chk hlen' hgo hok hcc') (machV0 _)⟩
     ·skip
      have hcc' : ¬ chkM m ≠ 0 := by simpa using hcc
      refine qO ?_
      refine qE ?_
      refine qB rfl ?_
      refine wO 1 (vs := [.int .i64 _, .int .i64 _, .int .i64 _, .int .i64 _, .int .i64 _, .slice _ _ _, .slice _ _ _, .slice _ _ _, .slice _ _ _]) rfl rfl rfl rfl rfl ?_
      refine qY 0 (v := .agg #[.int .i64 _, .int .i64 _, .int .i64 _, .int .i64 _, .int .i64 _, .slice _ _ _, .slice _ _ _, .slice _ _ _, .slice _ _ _]) (vs := [_, _, _, _, _, _, _, _, _]) (c' := [_, _, _, _, _, _, _, _, _]) rfl rfl rfl rfl rfl rfl rfl rfl rfl ?_
      refine qN [_, _, _, _, _, _] rfl ?_
      refine qA (qD (v := .int .i64 _) rfl) ?_
      refine qA (qD (v := .int .i64 _) rfl) ?_
      refine qQ ?_
      refine qM (vs := [_, _, _]) Tryz.results13 ⟨resV_agg 0 rfl rfl rfl rfl rfl (vs := [.int .i64 _, .int .i64 _, .int .i64 _, .int .i64 _, .int .i64 _, .slice _ _ _, .slice _ _ _, .slice _ _ _, .slice _ _ _]) rfl, qJ rfl rfl, qJ rfl rfl, trivial⟩ fun V => ?_
      exact ⟨(zL (zL (zL (zL (zL (zL (zL E1 E_k) GB) GQ) GL) GW) E6) (qR V)), readV_of (readM_ok hlen' hgo hok hcc') ⟨_, _, _, _, rfl, ⟨AB, cB, rfl, RM.b.ext (zL E6 (qR V))⟩, ⟨AQ, cQ, rfl, RM.q.ext (zL E6 (qR V))⟩, ⟨AL, cL, rfl, RM.l.ext (zL E6 (qR V))⟩, ⟨AW, cW, rfl, RM.w.ext (zL E6 (qR V))⟩⟩⟩
   ·skip
    have hg : (a_ != 5) = true := by simpa using h5
    refine qE ?_
    refine qE ?_
    refine qB rfl ?_
    refine qA (qC (v := .int .i64 _) rfl) ?_
    refine qA (qK (v := .bool _) rfl) ?_
    refine qA (qC (v := .bool _) rfl) ?_
    refine qH rfl hg ?_
    refine qH rfl hg ?_
    refine qH rfl hg ?_
    refine qH rfl hg ?_
    refine qH rfl hg ?_
    refine qH rfl hg ?_
    refine qH rfl hg ?_
    refine qA (qZ rfl hg (v := .bool _) rfl) ?_
    refine wW rfl (rfl) ?_
    refine qE ?_
    refine qB rfl ?_
    refine qA (zC (zc := [_, _, _, _, _, _, _, _, _]) (vs := []) (cs := [_, _, _, _, _, _, _, _, _]) rfl rfl rfl rfl rfl rfl) ?_
    refine qA (qC (v := .slice _ _ _) rfl) ?_
    refine qA (wP rfl rfl) ?_
    refine qY 0 (v := .agg #[.int .i64 _, .int .i64 _, .int .i64 _, .int .i64 _, .int .i64 _, .slice _ _ _, .slice _ _ _, .slice _ _ _, .slice _ _ _]) (vs := [_, _, _, _, _, _, _, _, _]) (c' := [_, _, _, _, _, _, _, _, _]) rfl rfl rfl rfl rfl rfl rfl rfl rfl ?_
    refine qN [_, _, _, _, _, _] rfl ?_
    refine qA (qD (v := .int .i64 _) rfl) ?_
    refine qA (qD (v := .int .i64 _) rfl) ?_
    refine qQ ?_
    refine qM (vs := [_, _, _]) Tryz.results13 ⟨resV_agg 0 rfl rfl rfl rfl rfl (vs := [.int .i64 _, .int .i64 _, .int .i64 _, .int .i64 _, .int .i64 _, .slice _ _ _, .slice _ _ _, .slice _ _ _, .slice _ _ _]) rfl, qJ rfl rfl, qJ rfl rfl, trivial⟩ fun V => ?_
    exact ⟨(zL (zL E1 E_k) (qR V)), readV_of (readM_endI hlen' hgo (.inl h5) (by rw [← hrows])) (machV0 _)⟩
end
end Go.Proofs.YtmpahfdiebhdbaaGreatDoor
namespace Go.Proofs.YtmpahfdiebhdbaaGreatDoor
open Go Go.HL Go.Proofs Go.Wx Go.Rd
section
variable [Lvl]
set_option maxRecDepth 100000
theorem row_ok (w : List UInt8) (l : List Int) (A : Option Addr) (cap : Nat) (h : AH) (PW : Pow h) (R : Row h 1 intC A l) (hn : ∀ n ∈ l, n.natAbs < 1000) (hw : w.length < 100) (hl : l.length < 100) :
  FnT Tryz.prog 32 #[.string (bs w), .slice A l.length cap] h (fun v _ => v = .string (bs (lineM w l))) := by
 refine wH Tryz.func32 rfl Tryz.ntmps32 rfl ?_
 refine qE ?_
 refine qB rfl ?_
 refine qA (qD (v := .string _) rfl) ?_
 refine qE ?_
 refine qE ?_
 refine qB rfl ?_
 refine qA (qD (v := .int .i64 _) rfl) ?_
 refine qT ?_
 refine zH [0, 5, 6, 7, 8, 9, 10, 11, 12, 13, 14, 15, 16, 17, 18, 19] 0 (α := Nat) (fun k => [(5, .int .i64 k), (0, .string (bs (w ++ (l.take k).flatMap numL)))]) (fun k => _) (fun k h_k => k ≤ l.length) (fun k => l.length - k) (0) ⟨rfl, strE (by simp), trivial⟩ (rfl) (Nat.zero_le _) ?_
 rintro k T1 h_k E_k J_k
 refine qU [] rfl ?_
 refine qE ?_
 refine qE ?_
 refine qB rfl ?_
 refine qA (qC (v := .int .i64 _) rfl) ?_
 refine qA (qC (v := .slice _ _ _) rfl) ?_
 refine qA (wP rfl rfl) ?_
 refine qA (qK (v := .bool _) rfl) ?_
 refine qP rfl (fun hk => ?_) (fun hk => ?_)
 ·skip
  have hkl : k < l.length := ltI hk
  obtain ⟨g, off, hA, hc⟩ := (R.ext E_k).at (by omega) hkl
  have b1 := itoaL_len (n := l[k])
  have b2 := nums_len (l.take k)
  rw [List.length_take] at b2
  refine qO ?_
  refine qE ?_
  refine qT ?_
  refine qB rfl ?_
  refine qA (qC (v := .string _) rfl) ?_
  refine qA (pv_cat (b := [47]) rfl rfl (by rw [List.length_append]; show _ + 1 < _; omega)) ?_
  refine qA (qC (v := .slice _ _ _) rfl) ?_
  refine qA (qC (v := .int .i64 _) rfl) ?_
  refine qA (wD rfl hA rfl rfl rfl (by omega) (by omega)) ?_
  refine wL (v := .int .i64 _) rfl rfl ((hc) 0 _ rfl) ?_
  refine wJ (caps := []) (vs := [.int .i64 _]) rfl rfl rfl (itoaE_ok _ h_k (PW.ext E_k) (hn _ (List.getElem_mem hkl))) ?_
  rintro _ h1 E1 rfl
  refine qA (pv_cat rfl rfl (by rw [List.length_append, List.length_append]; show _ + 1 + _ < _; omega)) ?_
  refine qA (qD (v := .string _) rfl) ?_
  refine qB rfl ?_
  refine qA (qC (v := .int .i64 _) rfl) ?_
  refine qA (qS rfl (by omega)) ?_
  refine qA (qD (v := .int .i64 _) rfl) ?_
  refine ⟨k + 1, ⟨rfl, strE (by rw [Go.Rd.flat_take numL hkl]; simp [numL]), trivial⟩, rfl, rfl, (zL E_k E1), fun h3 E3 => hkl, by first | omega | (dsimp only; omega), ?_⟩
  repeat (first | exact qW _ _ _ | refine wA (by decide) ?_ | refine qV rfl ?_ | refine wB rfl ?_)
 ·skip
  have hke : k = l.length := by have := geI hk; omega
  subst hke
  refine wS ?_
  refine qE ?_
  refine qB rfl ?_
  refine qA (qC (v := .string _) rfl) ?_
  have b2 := nums_len l
  refine qA (pv_cat (b := [10]) rfl rfl (by rw [List.take_length, List.length_append]; show _ + 1 < _; omega)) ?_
  refine qA (qD (v := .string _) rfl) ?_
  refine qQ ?_
  refine qM (vs := [_]) Tryz.results32 ⟨qJ rfl rfl, trivial⟩ fun V => ?_
  exact ⟨(zL E_k (qR V)), strE (by rw [List.take_length]; rfl)⟩
set_option maxHeartbeats 4000000 in
theorem WriteR_ok (m : MachP) (S : Sml m) (AB AQ AL AW : Option Addr) (cB cQ cL cW : Nat) (h : AH) (PW : Pow h) (R : MachR h AB AQ AL AW m) :
  FnT Tryz.prog 10 #[machV AB AQ AL AW cB cQ cL cW m] h (fun v _ => v = writeV m) := by
 refine wH Tryz.func10 rfl Tryz.ntmps10 rfl ?_
 refine qE ?_
 refine qB rfl ?_
 refine op_box (v := .agg #[.int .i64 _, .int .i64 _, .int .i64 _, .int .i64 _, .int .i64 _, .slice _ _ _, .slice _ _ _, .slice _ _ _, .slice _ _ _]) (cs := [_, _, _, _, _, _, _, _, _]) rfl rfl fun b1 hb1 => ?_
 refine qN [_] rfl ?_
 refine qA (qD (v := .string _) rfl) ?_
 refine qA (qD (v := .int .i64 _) rfl) ?_
 refine qE ?_
 refine qE ?_
 refine qB rfl ?_
 refine wO 0 (vs := [.int .i64 _, .int .i64 _, .int .i64 _, .int .i64 _, .int .i64 _, .slice _ _ _, .slice _ _ _, .slice _ _ _, .slice _ _ _]) rfl rfl rfl rfl rfl ?_
 refine wJ (caps := []) (vs := [.agg #[.int .i64 _, .int .i64 _, .int .i64 _, .int .i64 _, .int .i64 _, .slice _ _ _, .slice _ _ _, .slice _ _ _, .slice _ _ _]]) rfl rfl rfl (CheckS_ok m S AB AQ AL AW cB cQ cL cW h (R.ext (Ext.refl _))) ?_
 rintro _ h1 E1 rfl
 refine qA (qD (v := .int .i64 _) rfl) ?_
 refine qE ?_
 refine qB rfl ?_
 refine qA (qC (v := .int .i64 _) rfl) ?_
 refine qA (qK (v := .bool _) rfl) ?_
 refine qP rfl (fun hc => ?_) (fun hc => ?_)
 ·skip
  have hc' : chkM m ≠ 0 := by simpa using hc
  refine qE ?_
  refine qB rfl ?_
  refine qA (qC (v := .int .i64 _) rfl) ?_
  refine qA (qD (v := .string _) rfl) ?_
  refine qA (qD (v := .int .i64 _) rfl) ?_
  refine qQ ?_
  refine qM (vs := [_, _]) Tryz.results10 ⟨qJ rfl rfl, qJ rfl rfl, trivial⟩ fun V => ?_
  exact ⟨(zL E1 (qR V)), by rw [writeV, if_neg hc']; rfl⟩
 ·skip
  have hc' : chkM m = 0 := by simpa using hc
  have M := check_ok hc'
  have q1 := M.rods
  have q2 := M.levers
  have q3 := M.regs
  have q4 := M.travel
  have q5 := M.opn
  have q6 := M.bl
  have q7 := M.pl
  have q8 := M.ll
  have q9 := M.wl
  refine qO ?_
  refine qE ?_
  refine qB rfl ?_
  refine qA (qG rfl rfl rfl rfl 0 rfl) ?_
  refine qL 0 (v := .int .i64 _) rfl rfl rfl rfl ?_
  refine qA (qG rfl rfl rfl rfl 1 rfl) ?_
  refine qL 0 (v := .int .i64 _) rfl rfl rfl rfl ?_
  refine qA (qG rfl rfl rfl rfl 2 rfl) ?_
  refine qL 0 (v := .int .i64 _) rfl rfl rfl rfl ?_
  refine qA (qG rfl rfl rfl rfl 3 rfl) ?_
  refine qL 0 (v := .int .i64 _) rfl rfl rfl rfl ?_
  refine qA (qG rfl rfl rfl rfl 4 rfl) ?_
  refine qL 0 (v := .int .i64 _) rfl rfl rfl rfl ?_
  refine qX (zc := [_]) (vs := [(0, .int .i64 _), (1, .int .i64 _), (2, .int .i64 _), (3, .int .i64 _), (4, .int .i64 _)]) (cs := [_, _, _, _, _]) rfl rfl rfl rfl rfl rfl rfl fun b25 hb25 => ?_
  refine qN [_, _] rfl ?_
  refine wp_pub 1 rfl rfl ?_
  intro h2 E2 hb2
  refine qN [_, _] rfl ?_
  refine wJ (caps := []) (vs := [.string _, .slice _ _ _]) rfl rfl rfl (row_ok [77] [m.rods, m.levers, m.regs, m.travel, m.opn] _ _ h2 (PW.ext (zL E1 E2)) (wX (enc := intC) (fun _ _ => rfl) hb2) (by intro n hn; simp only [List.mem_cons, List.not_mem_nil, or_false] at hn; omega) (by decide) (by show 5 < 100; decide)) ?_
  rintro _ h3 E3 rfl
  refine qA (qD (v := .string _) rfl) ?_
  refine qE ?_
  refine qE ?_
  refine qB rfl ?_
  refine qA (qD (v := .int .i64 _) rfl) ?_
  refine qT ?_
  have z0 := lineM_len [77] [m.rods, m.levers, m.regs, m.travel, m.opn]
  simp only [List.length_cons, List.length_nil] at z0
  refine zH [5, 6, 27, 28, 29, 30, 31, 32, 33, 34, 35, 36, 37, 38, 39, 40, 41, 42] 2 (α := Nat) (fun k => [(6, .int .i64 k), (5, .string (bs (headL m ++ (m.buttons.take k).flatMap btnL)))]) (fun k => _) (fun k h_k => k ≤ m.buttons.length) (fun k => m.buttons.length - k) (0) ⟨rfl, strE (by simp [headL]), trivial⟩ (rfl) (Nat.zero_le _) ?_
  rintro k T1 h_k E_k J_k
  refine qU [_, _] rfl ?_
  have z1 := flat_le btnL 7 (fun r => lineM_len [66] [r]) (m.buttons.take k)
  have z2 := len1 m.buttons k
  refine qE ?_
  refine qE ?_
  refine qB rfl ?_
  refine qA (qC (v := .int .i64 _) rfl) ?_
  refine qA (qG rfl rfl rfl rfl 5 rfl) ?_
  refine qL 0 (v := .slice _ _ _) rfl rfl rfl rfl ?_
  refine qA (wP rfl rfl) ?_
  refine qA (qK (v := .bool _) rfl) ?_
  refine qP rfl (fun hk => ?_) (fun hk => ?_)
  ·skip
   have hkl : k < m.buttons.length := ltI hk
   obtain ⟨g, off, hA, hc⟩ := (R.b.ext (zL (zL (zL E1 E2) E3) E_k)).at (by omega) hkl
   refine qO ?_
   refine qE ?_
   refine qT ?_
   refine qB rfl ?_
   refine qA (qC (v := .string _) rfl) ?_
   refine qA (qG rfl rfl rfl rfl 5 rfl) ?_
   refine qL 0 (v := .slice _ _ _) rfl rfl rfl rfl ?_
   refine qA (qC (v := .int .i64 _) rfl) ?_
   refine qA (wD rfl hA rfl rfl rfl (by omega) (by omega)) ?_
   refine wL (v := .int .i64 _) rfl rfl ((hc) 0 _ rfl) ?_
   refine qX (zc := [_]) (vs := [(0, .int .i64 _)]) (cs := [_]) rfl rfl rfl rfl rfl rfl rfl fun b40 hb40 => ?_
   refine qN [_, _, _] rfl ?_
   refine wp_pub 2 rfl rfl ?_
   intro h4 E4 hb4
   refine qN [_, _, _] rfl ?_
   refine wJ (caps := []) (vs := [.string _, .slice _ _ _]) rfl rfl rfl (row_ok [66] [m.buttons[k]] _ _ h4 (PW.ext (zL (zL (zL (zL E1 E2) E3) E_k) E4)) (wX (enc := intC) (fun _ _ => rfl) hb4) (by intro n hn; simp only [List.mem_cons, List.not_mem_nil, or_false] at hn; have := M.btn _ (List.getElem_mem hkl); omega) (by decide) (by show 1 < 100; decide)) ?_
   rintro _ h5 E5 rfl
   have z3 := lineM_len [66] [m.buttons[k]]
   simp only [List.length_cons, List.length_nil] at z3
   refine qA (pv_cat rfl rfl (by rw [List.length_append]; unfold headL; omega)) ?_
   refine qA (qD (v := .string _) rfl) ?_
   refine qB rfl ?_
   refine qA (qC (v := .int .i64 _) rfl) ?_
   refine qA (qS rfl (by omega)) ?_
   refine qA (qD (v := .int .i64 _) rfl) ?_
   refine ⟨k + 1, ⟨rfl, strE (by rw [Go.Rd.flat_take btnL hkl, List.append_assoc]; rfl), trivial⟩, rfl, rfl, (zL (zL E_k E4) E5), fun h3 E3 => hkl, by first | omega | (dsimp only; omega), ?_⟩
   repeat (first | exact qW _ _ _ | refine wA (by decide) ?_ | refine qV rfl ?_ | refine wB rfl ?_)
  ·skip
   have hke : k = m.buttons.length := by have := geI hk; omega
   subst hke
   rw [List.take_length] at z1
   refine wS ?_
   refine qE ?_
   refine qE ?_
   refine qB rfl ?_
   refine qA (qD (v := .int .i64 _) rfl) ?_
   refine qT ?_
   have y0 : (wr1 m).length < 1000 := by unfold wr1 headL; rw [List.length_append]; omega
   refine zH [5, 7, 43, 44, 45, 46, 47, 48, 49, 50, 51, 52, 53, 54, 55, 56, 57, 58, 59, 60, 61, 62, 63, 64, 65, 66, 67, 68, 69, 70, 71] 2 (α := Nat) (fun k2 => [(7, .int .i64 k2), (5, .string (bs (wr1 m ++ (m.pins.take k2).flatMap pinL)))]) (fun k2 => _) (fun k2 h_k2 => k2 ≤ m.pins.length) (fun k2 => m.pins.length - k2) (0) ⟨rfl, strE (by simp [wr1, List.take_length]), trivial⟩ (rfl) (Nat.zero_le _) ?_
   rintro k2 T2 h_k2 E_k2 J_k2
   refine qU [_, _] rfl ?_
   have x1 := flat_le pinL 17 (fun r => lineM_len [80] [r.rod, r.lever, r.lag]) (m.pins.take k2)
   have x2 := len1 m.pins k2
   refine qE ?_
   refine qE ?_
   refine qB rfl ?_
   refine qA (qC (v := .int .i64 _) rfl) ?_
   refine qA (qG rfl rfl rfl rfl 6 rfl) ?_
   refine qL 0 (v := .slice _ _ _) rfl rfl rfl rfl ?_
   refine qA (wP rfl rfl) ?_
   refine qA (qK (v := .bool _) rfl) ?_
   refine qP rfl (fun hk2 => ?_) (fun hk2 => ?_)
   ·skip
    have hkl : k2 < m.pins.length := ltI hk2
    obtain ⟨g, off, hA, hc⟩ := (R.q.ext (zL (zL (zL (zL E1 E2) E3) E_k) E_k2)).at (by omega) hkl
    refine qO ?_
    refine qE ?_
    refine qT ?_
    refine xp_dw [] rfl rfl rfl ?_
    refine qI (i := 0) rfl (by decide +kernel) (qC (v := .string _) rfl) ?_
    refine qI (i := 1) rfl (by decide +kernel) (qG rfl rfl rfl rfl 6 rfl) ?_
    refine wE (i := 2) rfl (by decide +kernel) ?_
    refine qL 0 (v := .slice _ _ _) rfl rfl rfl rfl ?_
    refine qI (i := 3) rfl (by decide +kernel) (qC (v := .int .i64 _) rfl) ?_
    refine qI (i := 4) rfl (by decide +kernel) (wD rfl hA rfl rfl rfl (by omega) (by omega)) ?_
    refine qI (i := 5) rfl (by decide +kernel) (qG rfl rfl rfl rfl _ rfl) ?_
    refine wE (i := 6) rfl (by decide +kernel) ?_
    refine wL (v := .int .i64 _) rfl rfl (hc 0 _ rfl) ?_
    refine qI (i := 7) rfl (by decide +kernel) (qG rfl rfl rfl rfl 6 rfl) ?_
    refine wE (i := 8) rfl (by decide +kernel) ?_
    refine qL 0 (v := .slice _ _ _) rfl rfl rfl rfl ?_
    refine qI (i := 9) rfl (by decide +kernel) (qC (v := .int .i64 _) rfl) ?_
    refine qI (i := 10) rfl (by decide +kernel) (wD rfl hA rfl rfl rfl (by omega) (by omega)) ?_
    refine qI (i := 11) rfl (by decide +kernel) (qG rfl rfl rfl rfl _ rfl) ?_
    refine wE (i := 12) rfl (by decide +kernel) ?_
    refine wL (v := .int .i64 _) rfl rfl (hc 1 _ rfl) ?_
    refine qI (i := 13) rfl (by decide +kernel) (qG rfl rfl rfl rfl 6 rfl) ?_
    refine wE (i := 14) rfl (by decide +kernel) ?_
    refine qL 0 (v := .slice _ _ _) rfl rfl rfl rfl ?_
    refine qI (i := 15) rfl (by decide +kernel) (qC (v := .int .i64 _) rfl) ?_
    refine qI (i := 16) rfl (by decide +kernel) (wD rfl hA rfl rfl rfl (by omega) (by omega)) ?_
    refine qI (i := 17) rfl (by decide +kernel) (qG rfl rfl rfl rfl _ rfl) ?_
    refine wE (i := 18) rfl (by decide +kernel) ?_
    refine wL (v := .int .i64 _) rfl rfl (hc 2 _ rfl) ?_
    refine wV (i := 19) rfl (by decide +kernel) (by decide +kernel) ?_
    refine qX (zc := [_]) (vs := [(0, .int .i64 _), (1, .int .i64 _), (2, .int .i64 _)]) (cs := [_, _, _]) rfl rfl rfl rfl rfl rfl rfl fun b69 hb69 => ?_
    refine wN [_, _, _] rfl ?_
    refine dw_pub 2 rfl ?_
    intro h4 E4 hb4
    refine wN [_, _, _] rfl ?_
    refine wV (i := 20) rfl (by decide +kernel) (by decide +kernel) ?_
    refine wJ (caps := []) (vs := [.string _, .slice _ _ _]) rfl rfl rfl (row_ok [80] [m.pins[k2].rod, m.pins[k2].lever, m.pins[k2].lag] _ _ h4 (PW.ext (zL (zL (zL (zL (zL E1 E2) E3) E_k) E_k2) E4)) (wX (enc := intC) (fun _ _ => rfl) hb4) (by intro n hn; simp only [List.mem_cons, List.not_mem_nil, or_false] at hn; have := M.pin _ (List.getElem_mem hkl); omega) (by decide) (by show 3 < 100; decide)) ?_
    rintro _ h5 E5 rfl
    have x3 := lineM_len [80] [m.pins[k2].rod, m.pins[k2].lever, m.pins[k2].lag]
    simp only [List.length_cons, List.length_nil] at x3
    refine qI (i := 21) rfl (by decide +kernel) (pv_cat rfl rfl (by rw [List.length_append]; omega)) ?_
    refine qI (i := 22) rfl (by decide +kernel) (qD (v := .string _) rfl) ?_
    refine zI rfl ?_
    refine qB rfl ?_
    refine qA (qC (v := .int .i64 _) rfl) ?_
    refine qA (qS rfl (by omega)) ?_
    refine qA (qD (v := .int .i64 _) rfl) ?_
    refine ⟨k2 + 1, ⟨rfl, strE (by rw [Go.Rd.flat_take pinL hkl, List.append_assoc]; rfl), trivial⟩, rfl, rfl, (zL (zL E_k2 E4) E5), fun h3 E3 => hkl, by first | omega | (dsimp only; omega), ?_⟩
    repeat (first | exact qW _ _ _ | refine wA (by decide) ?_ | refine qV rfl ?_ | refine wB rfl ?_)
   ·skip
    have hke : k2 = m.pins.length := by have := geI hk2; omega
    subst hke
    rw [List.take_length] at x1
    refine wS ?_
    refine qE ?_
    refine qE ?_
    refine qB rfl ?_
    refine qA (qD (v := .int .i64 _) rfl) ?_
    refine qT ?_
    have y1 : (wr2 m).length < 2000 := by unfold wr2; rw [List.length_append]; omega
    refine zH [5, 8, 72, 73, 74, 75, 76, 77, 78, 79, 80, 81, 82, 83, 84, 85, 86, 87, 88, 89, 90, 91, 92, 93, 94, 95, 96, 97, 98, 99, 100, 101, 102, 103, 104, 105, 106] 2 (α := Nat) (fun k3 => [(8, .int .i64 k3), (5, .string (bs (wr2 m ++ (m.links.take k3).flatMap lnkL)))]) (fun k3 => _) (fun k3 h_k3 => k3 ≤ m.links.length) (fun k3 => m.links.length - k3) (0) ⟨rfl, strE (by simp [wr2, List.take_length]), trivial⟩ (rfl) (Nat.zero_le _) ?_
    rintro k3 T3 h_k3 E_k3 J_k3
    refine qU [_, _] rfl ?_
    have w1 := flat_le lnkL 22 (fun r => lineM_len [76] [r.frm, r.to, r.reg, r.lag]) (m.links.take k3)
    have w2 := len1 m.links k3
    refine qE ?_
    refine qE ?_
    refine qB rfl ?_
    refine qA (qC (v := .int .i64 _) rfl) ?_
    refine qA (qG rfl rfl rfl rfl 7 rfl) ?_
    refine qL 0 (v := .slice _ _ _) rfl rfl rfl rfl ?_
    refine qA (wP rfl rfl) ?_
    refine qA (qK (v := .bool _) rfl) ?_
    refine qP rfl (fun hk3 => ?_) (fun hk3 => ?_)
    ·skip
     have hkl : k3 < m.links.length := ltI hk3
     obtain ⟨g, off, hA, hc⟩ := (R.l.ext (zL (zL (zL (zL (zL E1 E2) E3) E_k) E_k2) E_k3)).at (by omega) hkl
     refine qO ?_
     refine qE ?_
     refine qT ?_
     refine xp_dw [] rfl rfl rfl ?_
     refine qI (i := 0) rfl (by decide +kernel) (qC (v := .string _) rfl) ?_
     refine qI (i := 1) rfl (by decide +kernel) (qG rfl rfl rfl rfl 7 rfl) ?_
     refine wE (i := 2) rfl (by decide +kernel) ?_
     refine qL 0 (v := .slice _ _ _) rfl rfl rfl rfl ?_
     refine qI (i := 3) rfl (by decide +kernel) (qC (v := .int .i64 _) rfl) ?_
     refine qI (i := 4) rfl (by decide +kernel) (wD rfl hA rfl rfl rfl (by omega) (by omega)) ?_
     refine qI (i := 5) rfl (by decide +kernel) (qG rfl rfl rfl rfl _ rfl) ?_
     refine wE (i := 6) rfl (by decide +kernel) ?_
     refine wL (v := .int .i64 _) rfl rfl (hc 0 _ rfl) ?_
     refine qI (i := 7) rfl (by decide +kernel) (qG rfl rfl rfl rfl 7 rfl) ?_
     refine wE (i := 8) rfl (by decide +kernel) ?_
     refine qL 0 (v := .slice _ _ _) rfl rfl rfl rfl ?_
     refine qI (i := 9) rfl (by decide +kernel) (qC (v := .int .i64 _) rfl) ?_
     refine qI (i := 10) rfl (by decide +kernel) (wD rfl hA rfl rfl rfl (by omega) (by omega)) ?_
     refine qI (i := 11) rfl (by decide +kernel) (qG rfl rfl rfl rfl _ rfl) ?_
     refine wE (i := 12) rfl (by decide +kernel) ?_
     refine wL (v := .int .i64 _) rfl rfl (hc 1 _ rfl) ?_
     refine qI (i := 13) rfl (by decide +kernel) (qG rfl rfl rfl rfl 7 rfl) ?_
     refine wE (i := 14) rfl (by decide +kernel) ?_
     refine qL 0 (v := .slice _ _ _) rfl rfl rfl rfl ?_
     refine qI (i := 15) rfl (by decide +kernel) (qC (v := .int .i64 _) rfl) ?_
     refine qI (i := 16) rfl (by decide +kernel) (wD rfl hA rfl rfl rfl (by omega) (by omega)) ?_
     refine qI (i := 17) rfl (by decide +kernel) (qG rfl rfl rfl rfl _ rfl) ?_
     refine wE (i := 18) rfl (by decide +kernel) ?_
     refine wL (v := .int .i64 _) rfl rfl (hc 2 _ rfl) ?_
     refine qI (i := 19) rfl (by decide +kernel) (qG rfl rfl rfl rfl 7 rfl) ?_
     refine wE (i := 20) rfl (by decide +kernel) ?_
     refine qL 0 (v := .slice _ _ _) rfl rfl rfl rfl ?_
     refine qI (i := 21) rfl (by decide +kernel) (qC (v := .int .i64 _) rfl) ?_
     refine qI (i := 22) rfl (by decide +kernel) (wD rfl hA rfl rfl rfl (by omega) (by omega)) ?_
     refine qI (i := 23) rfl (by decide +kernel) (qG rfl rfl rfl rfl _ rfl) ?_
     refine wE (i := 24) rfl (by decide +kernel) ?_
     refine wL (v := .int .i64 _) rfl rfl (hc 3 _ rfl) ?_
     refine wV (i := 25) rfl (by decide +kernel) (by decide +kernel) ?_
     refine qX (zc := [_]) (vs := [(0, .int .i64 _), (1, .int .i64 _), (2, .int .i64 _), (3, .int .i64 _)]) (cs := [_, _, _, _]) rfl rfl rfl rfl rfl rfl rfl fun b104 hb104 => ?_
     refine wN [_, _, _] rfl ?_
     refine dw_pub 2 rfl ?_
     intro h4 E4 hb4
     refine wN [_, _, _] rfl ?_
     refine wV (i := 26) rfl (by decide +kernel) (by decide +kernel) ?_
     refine wJ (caps := []) (vs := [.string _, .slice _ _ _]) rfl rfl rfl (row_ok [76] [m.links[k3].frm, m.links[k3].to, m.links[k3].reg, m.links[k3].lag] _ _ h4 (PW.ext (zL (zL (zL (zL (zL (zL E1 E2) E3) E_k) E_k2) E_k3) E4)) (wX (enc := intC) (fun _ _ => rfl) hb4) (by intro n hn; simp only [List.mem_cons, List.not_mem_nil, or_false] at hn; have := M.link _ (List.getElem_mem hkl); omega) (by decide) (by show 4 < 100; decide)) ?_
     rintro _ h5 E5 rfl
     have w3 := lineM_len [76] [m.links[k3].frm, m.links[k3].to, m.links[k3].reg, m.links[k3].lag]
     simp only [List.length_cons, List.length_nil] at w3
     refine qI (i := 27) rfl (by decide +kernel) (pv_cat rfl rfl (by rw [List.length_append]; omega)) ?_
     refine qI (i := 28) rfl (by decide +kernel) (qD (v := .string _) rfl) ?_
     refine zI rfl ?_
     refine qB rfl ?_
     refine qA (qC (v := .int .i64 _) rfl) ?_
     refine qA (qS rfl (by omega)) ?_
     refine qA (qD (v := .int .i64 _) rfl) ?_
     refine ⟨k3 + 1, ⟨rfl, strE (by rw [Go.Rd.flat_take lnkL hkl, List.append_assoc]; rfl), trivial⟩, rfl, rfl, (zL (zL E_k3 E4) E5), fun h3 E3 => hkl, by first | omega | (dsimp only; omega), ?_⟩
     repeat (first | exact qW _ _ _ | refine wA (by decide) ?_ | refine qV rfl ?_ | refine wB rfl ?_)
    ·skip
     have hke : k3 = m.links.length := by have := geI hk3; omega
     subst hke
     rw [List.take_length] at w1
     refine wS ?_
     refine qE ?_
     refine qE ?_
     refine qB rfl ?_
     refine qA (qD (v := .int .i64 _) rfl) ?_
     refine qT ?_
     have y2 : (wr3 m).length < 3000 := by unfold wr3; rw [List.length_append]; omega
     refine zH [5, 9, 107, 108, 109, 110, 111, 112, 113, 114, 115, 116, 117, 118, 119, 120, 121, 122] 2 (α := Nat) (fun k4 => [(9, .int .i64 k4), (5, .string (bs (wr3 m ++ (m.weights.take k4).flatMap wgtL)))]) (fun k4 => _) (fun k4 h_k4 => k4 ≤ m.weights.length) (fun k4 => m.weights.length - k4) (0) ⟨rfl, strE (by simp [wr3, List.take_length]), trivial⟩ (rfl) (Nat.zero_le _) ?_
     rintro k4 T4 h_k4 E_k4 J_k4
     refine qU [_, _] rfl ?_
     have v1 := flat_le wgtL 7 (fun r => lineM_len [87] [r]) (m.weights.take k4)
     have v2 := len1 m.weights k4
     refine qE ?_
     refine qE ?_
     refine qB rfl ?_
     refine qA (qC (v := .int .i64 _) rfl) ?_
     refine qA (qG rfl rfl rfl rfl 8 rfl) ?_
     refine qL 0 (v := .slice _ _ _) rfl rfl rfl rfl ?_
     refine qA (wP rfl rfl) ?_
     refine qA (qK (v := .bool _) rfl) ?_
     refine qP rfl (fun hk4 => ?_) (fun hk4 => ?_)
     ·skip
      have hkl : k4 < m.weights.length := ltI hk4
      obtain ⟨g, off, hA, hc⟩ := (R.w.ext (zL (zL (zL (zL (zL (zL E1 E2) E3) E_k) E_k2) E_k3) E_k4)).at (by omega) hkl
      refine qO ?_
      refine qE ?_
      refine qT ?_
      refine qB rfl ?_
      refine qA (qC (v := .string _) rfl) ?_
      refine qA (qG rfl rfl rfl rfl 8 rfl) ?_
      refine qL 0 (v := .slice _ _ _) rfl rfl rfl rfl ?_
      refine qA (qC (v := .int .i64 _) rfl) ?_
      refine qA (wD rfl hA rfl rfl rfl (by omega) (by omega)) ?_
      refine wL (v := .int .i64 _) rfl rfl ((hc) 0 _ rfl) ?_
      refine qX (zc := [_]) (vs := [(0, .int .i64 _)]) (cs := [_]) rfl rfl rfl rfl rfl rfl rfl fun b120 hb120 => ?_
      refine qN [_, _, _] rfl ?_
      refine wp_pub 2 rfl rfl ?_
      intro h4 E4 hb4
      refine qN [_, _, _] rfl ?_
      refine wJ (caps := []) (vs := [.string _, .slice _ _ _]) rfl rfl rfl (row_ok [87] [m.weights[k4]] _ _ h4 (PW.ext (zL (zL (zL (zL (zL (zL (zL E1 E2) E3) E_k) E_k2) E_k3) E_k4) E4)) (wX (enc := intC) (fun _ _ => rfl) hb4) (by intro n hn; simp only [List.mem_cons, List.not_mem_nil, or_false] at hn; subst hn; have := M.wt _ (List.getElem_mem hkl); omega) (by decide) (by show 1 < 100; decide)) ?_
      rintro _ h5 E5 rfl
      have v3 := lineM_len [87] [m.weights[k4]]
      simp only [List.length_cons, List.length_nil] at v3
      refine qA (pv_cat rfl rfl (by rw [List.length_append]; omega)) ?_
      refine qA (qD (v := .string _) rfl) ?_
      refine qB rfl ?_
      refine qA (qC (v := .int .i64 _) rfl) ?_
      refine qA (qS rfl (by omega)) ?_
      refine qA (qD (v := .int .i64 _) rfl) ?_
      refine ⟨k4 + 1, ⟨rfl, strE (by rw [Go.Rd.flat_take wgtL hkl, List.append_assoc]; rfl), trivial⟩, rfl, rfl, (zL (zL E_k4 E4) E5), fun h3 E3 => hkl, by first | omega | (dsimp only; omega), ?_⟩
      repeat (first | exact qW _ _ _ | refine wA (by decide) ?_ | refine qV rfl ?_ | refine wB rfl ?_)
     ·skip
      have hke : k4 = m.weights.length := by have := geI hk4; omega
      subst hke
      rw [List.take_length] at v1
      refine wS ?_
      refine qE ?_
      refine qB rfl ?_
      refine qA (qC (v := .string _) rfl) ?_
      refine wJ (caps := []) (vs := [.string _, .slice _ _ _]) rfl rfl rfl (row_ok [69] [] none 0 h_k4 (PW.ext (zL (zL (zL (zL (zL (zL E1 E2) E3) E_k) E_k2) E_k3) E_k4)) ⟨fun _ _ => rfl, Rd.nil _ _⟩ (fun _ h => absurd h List.not_mem_nil) (by decide) (by decide)) ?_
      rintro _ h6 E6 rfl
      refine qA (pv_cat (b := lineM [69] []) rfl rfl (by rw [List.take_length, List.length_append]; show _ + 2 < _; omega)) ?_
      refine qA (qD (v := .string _) rfl) ?_
      refine qA (qD (v := .int .i64 _) rfl) ?_
      refine qQ ?_
      refine qM (vs := [_, _]) Tryz.results10 ⟨qJ rfl rfl, qJ rfl rfl, trivial⟩ fun V => ?_
      exact ⟨(zL (zL (zL (zL (zL (zL (zL (zL E1 E2) E3) E_k) E_k2) E_k3) E_k4) E6) (qR V)), by rw [writeV, if_pos hc', hc']; exact congrArg (fun z => Value.tuple #[.string (bs z), .int .i64 0]) (show (wr3 m ++ (m.weights.take m.weights.length).flatMap wgtL) ++ [69, 10] = writeM m by rw [List.take_length]; rfl)⟩
end
end Go.Proofs.YtmpahfdiebhdbaaGreatDoor
namespace Go.Proofs.YtmpahfdiebhdbaaGreatDoor
open Go Go.HL Go.Proofs Go.Wx Go.Rd
section
variable [Lvl]
set_option maxRecDepth 100000
abbrev machC (AB AQ AL AW : Option Addr) (cB cQ cL cW : Nat) (m : MachP) : List Value := [.int .i64 m.rods, .int .i64 m.levers, .int .i64 m.regs, .int .i64 m.travel, .int .i64 m.opn, .slice AB m.buttons.length cB, .slice AQ m.pins.length cQ, .slice AL m.links.length cL, .slice AW m.weights.length cW]
def TMa (h : AH) (m : MachP) (c : List Value) : Prop := ∃ AB AQ AL AW cB cQ cL cW, c = machC AB AQ AL AW cB cQ cL cW m ∧ MachR h AB AQ AL AW m ∧ m.pins.length ≤ cQ ∧ m.links.length ≤ cL
theorem TMa.mono : Mono TMa := fun h h' m c e ⟨AB, AQ, AL, AW, cB, cQ, cL, cW, hc, r, s⟩ => ⟨AB, AQ, AL, AW, cB, cQ, cL, cW, hc, r.ext e, s⟩
theorem pinEq (a b : PinP) : pev Tryz.prog (Op.equalIn Op.maxDepth 65 (.agg (pinC a).toArray) (.agg (pinC b).toArray)) = some (decide (a.rod = b.rod ∧ a.lever = b.lever ∧ a.lag = b.lag)) := by
 have h1 := eq_struct (P := Tryz.prog) (t := 65) (d := 9999) (fs := [_, _, _]) (xs := (pinC a).toArray) (ys := (pinC b).toArray) (rs := [a.rod == b.rod, a.lever == b.lever, a.lag == b.lag]) rfl (by kernel_rfl) rfl ?_
 ·refine h1.trans ?_
  simp only [List.all_cons, List.all_nil, id, Bool.and_true, Option.some.injEq]
  rw [Bool.eq_iff_iff]
  simp
 ·intro i f r hf hr
  match i, hf, hr with
  | 0, hf, hr => cases hf; cases hr; exact ⟨by decide, _, _, rfl, rfl, eq_int rfl _ _⟩
  | 1, hf, hr => cases hf; cases hr; exact ⟨by decide, _, _, rfl, rfl, eq_int rfl _ _⟩
  | 2, hf, hr => cases hf; cases hr; exact ⟨by decide, _, _, rfl, rfl, eq_int rfl _ _⟩
  | i + 3, hf, hr => simp at hf
theorem linkEq (a b : LinkP) : pev Tryz.prog (Op.equalIn Op.maxDepth 67 (.agg (linkC a).toArray) (.agg (linkC b).toArray)) = some (decide (a.frm = b.frm ∧ a.to = b.to ∧ a.reg = b.reg ∧ a.lag = b.lag)) := by
 have h1 := eq_struct (P := Tryz.prog) (t := 67) (d := 9999) (fs := [_, _, _, _]) (xs := (linkC a).toArray) (ys := (linkC b).toArray) (rs := [a.frm == b.frm, a.to == b.to, a.reg == b.reg, a.lag == b.lag]) rfl (by kernel_rfl) rfl ?_
 ·refine h1.trans ?_
  simp only [List.all_cons, List.all_nil, id, Bool.and_true, Option.some.injEq]
  rw [Bool.eq_iff_iff]
  simp
 ·intro i f r hf hr
  match i, hf, hr with
  | 0, hf, hr => cases hf; cases hr; exact ⟨by decide, _, _, rfl, rfl, eq_int rfl _ _⟩
  | 1, hf, hr => cases hf; cases hr; exact ⟨by decide, _, _, rfl, rfl, eq_int rfl _ _⟩
  | 2, hf, hr => cases hf; cases hr; exact ⟨by decide, _, _, rfl, rfl, eq_int rfl _ _⟩
  | 3, hf, hr => cases hf; cases hr; exact ⟨by decide, _, _, rfl, rfl, eq_int rfl _ _⟩
  | i + 4, hf, hr => simp at hf
theorem pinSelf (a : PinP) : pev Tryz.prog (Op.equalIn Op.maxDepth 65 (.agg (pinC a).toArray) (.agg (pinC a).toArray)) = some true := by rw [pinEq]; simp
theorem linkSelf (a : LinkP) : pev Tryz.prog (Op.equalIn Op.maxDepth 67 (.agg (linkC a).toArray) (.agg (linkC a).toArray)) = some true := by rw [linkEq]; simp
theorem sameIntsS_ok (a : List Int) (A B : Option Addr) (ca cb : Nat) (h : AH) (Ra : Row h 1 intC A a) (Rb : Row h 1 intC B a) (ha : a.length < 2 ^ 40) :
  FnT Tryz.prog 23 #[.slice A a.length ca, .slice B a.length cb] h (fun v _ => v = .bool true) :=
 (sameInts_ok a a A B ca cb h Ra Rb ha).mono (fun v _ e => ⟨e.1, e.2.trans (boolE (decide_eq_true rfl))⟩) fun _ _ e => e
theorem SameMachines_ok (m : MachP) (S : Sml m) (AB AQ AL AW : Option Addr) (cB cQ cL cW : Nat) (AB' AQ' AL' AW' : Option Addr) (cB' cQ' cL' cW' : Nat) (h : AH) (R : MachR h AB AQ AL AW m) (R' : MachR h AB' AQ' AL' AW' m) :
  FnT Tryz.prog 14 #[machV AB AQ AL AW cB cQ cL cW m, machV AB' AQ' AL' AW' cB' cQ' cL' cW' m] h (fun v _ => v = .bool true) := by
 have s1 := S.b
 have s2 := S.q
 have s3 := S.l
 have s4 := S.w
 have q1 : (m.rods == m.rods) = true := by simp
 have q2 : (m.levers == m.levers) = true := by simp
 have q3 : (m.regs == m.regs) = true := by simp
 have q4 : (m.travel == m.travel) = true := by simp
 have q5 : (m.opn == m.opn) = true := by simp
 have q6 : ((m.pins.length : Int) == (m.pins.length : Int)) = true := by simp
 have q7 : ((m.links.length : Int) == (m.links.length : Int)) = true := by simp
 refine wH Tryz.func14 rfl Tryz.ntmps14 rfl ?_
 refine qE ?_
 refine qB rfl ?_
 refine op_box (v := .agg #[.int .i64 _, .int .i64 _, .int .i64 _, .int .i64 _, .int .i64 _, .slice _ _ _, .slice _ _ _, .slice _ _ _, .slice _ _ _]) (cs := [_, _, _, _, _, _, _, _, _]) rfl rfl fun b2 hb2 => ?_
 refine qN [_] rfl ?_
 refine op_box (v := .agg #[.int .i64 _, .int .i64 _, .int .i64 _, .int .i64 _, .int .i64 _, .slice _ _ _, .slice _ _ _, .slice _ _ _, .slice _ _ _]) (cs := [_, _, _, _, _, _, _, _, _]) rfl rfl fun b3 hb3 => ?_
 refine qN [_, _] rfl ?_
 refine qA (qD (v := .bool _) rfl) ?_
 refine qE ?_
 refine qB rfl ?_
 refine qA (qG rfl rfl rfl rfl 0 rfl) ?_
 refine qL 0 (v := .int .i64 _) rfl rfl rfl rfl ?_
 refine qA (qG rfl rfl rfl rfl 0 rfl) ?_
 refine qL 1 (v := .int .i64 _) rfl rfl rfl rfl ?_
 refine qA (qK (v := .bool _) rfl) ?_
 refine qA (qC (v := .bool _) rfl) ?_
 refine qF rfl q1 ?_
 refine qA (qG rfl rfl rfl rfl 1 rfl) ?_
 refine qF rfl q1 ?_
 refine qL 0 (v := .int .i64 _) rfl rfl rfl rfl ?_
 refine qF rfl q1 ?_
 refine qA (qG rfl rfl rfl rfl 1 rfl) ?_
 refine qF rfl q1 ?_
 refine qL 1 (v := .int .i64 _) rfl rfl rfl rfl ?_
 refine qF rfl q1 ?_
 refine qA (qK (v := .bool _) rfl) ?_
 refine qA (qZ rfl q1 (v := .bool _) rfl) ?_
 refine qA (qC (v := .bool _) rfl) ?_
 refine qF rfl q2 ?_
 refine qA (qG rfl rfl rfl rfl 2 rfl) ?_
 refine qF rfl q2 ?_
 refine qL 0 (v := .int .i64 _) rfl rfl rfl rfl ?_
 refine qF rfl q2 ?_
 refine qA (qG rfl rfl rfl rfl 2 rfl) ?_
 refine qF rfl q2 ?_
 refine qL 1 (v := .int .i64 _) rfl rfl rfl rfl ?_
 refine qF rfl q2 ?_
 refine qA (qK (v := .bool _) rfl) ?_
 refine qA (qZ rfl q2 (v := .bool _) rfl) ?_
 refine qA (qC (v := .bool _) rfl) ?_
 refine qF rfl q3 ?_
 refine qA (qG rfl rfl rfl rfl 3 rfl) ?_
 refine qF rfl q3 ?_
 refine qL 0 (v := .int .i64 _) rfl rfl rfl rfl ?_
 refine qF rfl q3 ?_
 refine qA (qG rfl rfl rfl rfl 3 rfl) ?_
 refine qF rfl q3 ?_
 refine qL 1 (v := .int .i64 _) rfl rfl rfl rfl ?_
 refine qF rfl q3 ?_
 refine qA (qK (v := .bool _) rfl) ?_
 refine qA (qZ rfl q3 (v := .bool _) rfl) ?_
 refine qA (qC (v := .bool _) rfl) ?_
 refine qF rfl q4 ?_
 refine qA (qG rfl rfl rfl rfl 4 rfl) ?_
 refine qF rfl q4 ?_
 refine qL 0 (v := .int .i64 _) rfl rfl rfl rfl ?_
 refine qF rfl q4 ?_
 refine qA (qG rfl rfl rfl rfl 4 rfl) ?_
 refine qF rfl q4 ?_
 refine qL 1 (v := .int .i64 _) rfl rfl rfl rfl ?_
 refine qF rfl q4 ?_
 refine qA (qK (v := .bool _) rfl) ?_
 refine qA (qZ rfl q4 (v := .bool _) rfl) ?_
 refine qA (qC (v := .bool _) rfl) ?_
 refine qF rfl q5 ?_
 refine qA (qG rfl rfl rfl rfl 5 rfl) ?_
 refine qF rfl q5 ?_
 refine qL 0 (v := .slice _ _ _) rfl rfl rfl rfl ?_
 refine qF rfl q5 ?_
 refine qA (qG rfl rfl rfl rfl 5 rfl) ?_
 refine qF rfl q5 ?_
 refine qL 1 (v := .slice _ _ _) rfl rfl rfl rfl ?_
 refine qF rfl q5 ?_
 refine wJ (caps := []) (vs := [.slice _ _ _, .slice _ _ _]) rfl rfl rfl (sameIntsS_ok m.buttons _ _ _ _ h (R.b.ext (Ext.refl _)) (R'.b.ext (Ext.refl _)) (by omega)) ?_
 rintro _ h3 E3 rfl
 refine qA (qZ rfl q5 (v := .bool _) rfl) ?_
 refine qA (qC (v := .bool _) rfl) ?_
 refine qF rfl rfl ?_
 refine qA (qG rfl rfl rfl rfl 8 rfl) ?_
 refine qF rfl rfl ?_
 refine qL 0 (v := .slice _ _ _) rfl rfl rfl rfl ?_
 refine qF rfl rfl ?_
 refine qA (qG rfl rfl rfl rfl 8 rfl) ?_
 refine qF rfl rfl ?_
 refine qL 1 (v := .slice _ _ _) rfl rfl rfl rfl ?_
 refine qF rfl rfl ?_
 refine wJ (caps := []) (vs := [.slice _ _ _, .slice _ _ _]) rfl rfl rfl (sameIntsS_ok m.weights _ _ _ _ h3 (R.w.ext E3) (R'.w.ext E3) (by omega)) ?_
 rintro _ h4 E4 rfl
 refine qA (qZ rfl rfl (v := .bool _) rfl) ?_
 refine qA (qC (v := .bool _) rfl) ?_
 refine qF rfl rfl ?_
 refine qA (qG rfl rfl rfl rfl 6 rfl) ?_
 refine qF rfl rfl ?_
 refine qL 0 (v := .slice _ _ _) rfl rfl rfl rfl ?_
 refine qF rfl rfl ?_
 refine qA (wP rfl rfl) ?_
 refine qF rfl rfl ?_
 refine qA (qG rfl rfl rfl rfl 6 rfl) ?_
 refine qF rfl rfl ?_
 refine qL 1 (v := .slice _ _ _) rfl rfl rfl rfl ?_
 refine qF rfl rfl ?_
 refine qA (wP rfl rfl) ?_
 refine qF rfl rfl ?_
 refine qA (qK (v := .bool _) rfl) ?_
 refine qA (qZ rfl rfl (v := .bool _) rfl) ?_
 refine qA (qC (v := .bool _) rfl) ?_
 refine qF rfl q6 ?_
 refine qA (qG rfl rfl rfl rfl 7 rfl) ?_
 refine qF rfl q6 ?_
 refine qL 0 (v := .slice _ _ _) rfl rfl rfl rfl ?_
 refine qF rfl q6 ?_
 refine qA (wP rfl rfl) ?_
 refine qF rfl q6 ?_
 refine qA (qG rfl rfl rfl rfl 7 rfl) ?_
 refine qF rfl q6 ?_
 refine qL 1 (v := .slice _ _ _) rfl rfl rfl rfl ?_
 refine qF rfl q6 ?_
 refine qA (wP rfl rfl) ?_
 refine qF rfl q6 ?_
 refine qA (qK (v := .bool _) rfl) ?_
 refine qA (qZ rfl q6 (v := .bool _) rfl) ?_
 refine qA (qD (v := .bool _) rfl) ?_
 refine qE ?_
 refine qE ?_
 refine qB rfl ?_
 refine qA (qD (v := .int .i64 _) rfl) ?_
 refine qT ?_
 refine zH [5, 6, 73, 74, 75, 76, 77, 78, 79, 80, 81, 82, 83, 84, 85, 86, 87, 88, 89, 90, 91, 92, 93] 2 (α := Nat) (fun k => [(5, .bool true), (6, .int .i64 k)]) (fun k => _) (fun k h_k => k ≤ m.pins.length) (fun k => m.pins.length - k) (0) ⟨boolE q7, rfl, trivial⟩ (rfl) (Nat.zero_le _) ?_
 rintro k T1 h_k E_k J_k
 refine qU [_, _] rfl ?_
 refine qE ?_
 refine qE ?_
 refine qB rfl ?_
 refine qA (qC (v := .bool _) rfl) ?_
 refine qA (qC (v := .bool _) rfl) ?_
 refine qF rfl rfl ?_
 refine qA (qC (v := .int .i64 _) rfl) ?_
 refine qF rfl rfl ?_
 refine qA (qG rfl rfl rfl rfl 6 rfl) ?_
 refine qF rfl rfl ?_
 refine qL 0 (v := .slice _ _ _) rfl rfl rfl rfl ?_
 refine qF rfl rfl ?_
 refine qA (wP rfl rfl) ?_
 refine qF rfl rfl ?_
 refine qA (qK (v := .bool _) rfl) ?_
 refine qA (qZ rfl rfl (v := .bool _) rfl) ?_
 refine qP rfl (fun ht => ?_) (fun ht => ?_)
 ·skip
  have hkl : k < m.pins.length := ltI ht
  obtain ⟨g, off, hA, hc⟩ := (R.q.ext (zL (zL E3 E4) E_k)).at (by omega) hkl
  obtain ⟨g2, off2, hB, hd⟩ := (R'.q.ext (zL (zL E3 E4) E_k)).at (by omega) hkl
  refine qO ?_
  refine qE ?_
  refine qT ?_
  refine xp_dw [] rfl rfl rfl ?_
  refine qI (i := 0) rfl (by decide +kernel) (qG rfl rfl rfl rfl 6 rfl) ?_
  refine wE (i := 1) rfl (by decide +kernel) ?_
  refine qL 0 (v := .slice _ _ _) rfl rfl rfl rfl ?_
  refine qI (i := 2) rfl (by decide +kernel) (qC (v := .int .i64 _) rfl) ?_
  refine qI (i := 3) rfl (by decide +kernel) (wD rfl hA rfl rfl rfl (by omega) (by omega)) ?_
  refine wE (i := 4) rfl (by decide +kernel) ?_
  refine op_loadA rfl rfl rfl rfl (hc) ?_
  refine qI (i := 5) rfl (by decide +kernel) (qG rfl rfl rfl rfl 6 rfl) ?_
  refine wE (i := 6) rfl (by decide +kernel) ?_
  refine qL 1 (v := .slice _ _ _) rfl rfl rfl rfl ?_
  refine qI (i := 7) rfl (by decide +kernel) (qC (v := .int .i64 _) rfl) ?_
  refine qI (i := 8) rfl (by decide +kernel) (wD rfl hB rfl rfl rfl (by omega) (by omega)) ?_
  refine wE (i := 9) rfl (by decide +kernel) ?_
  refine op_loadA rfl rfl rfl rfl (hd) ?_
  refine qI (i := 10) rfl (by decide +kernel) (pv_eqA rfl rfl (by kernel_rfl) (pinSelf _)) ?_
  refine qI (i := 11) rfl (by decide +kernel) (qD (v := .bool _) rfl) ?_
  refine zI rfl ?_
  refine qB rfl ?_
  refine qA (qC (v := .int .i64 _) rfl) ?_
  refine qA (qS rfl (by omega)) ?_
  refine qA (qD (v := .int .i64 _) rfl) ?_
  refine ⟨k + 1, ⟨rfl, rfl, trivial⟩, rfl, rfl, E_k, fun h3 E3 => hkl, by first | omega | (dsimp only; omega), ?_⟩
  repeat (first | exact qW _ _ _ | refine wA (by decide) ?_ | refine qV rfl ?_ | refine wB rfl ?_)
 ·skip
  have hke : k = m.pins.length := by have := geI ht; omega
  subst hke
  refine wS ?_
  refine qE ?_
  refine qE ?_
  refine qB rfl ?_
  refine qA (qD (v := .int .i64 _) rfl) ?_
  refine qT ?_
  refine zH [5, 7, 94, 95, 96, 97, 98, 99, 100, 101, 102, 103, 104, 105, 106, 107, 108, 109, 110, 111, 112, 113, 114] 2 (α := Nat) (fun j => [(5, .bool true), (7, .int .i64 j)]) (fun j => _) (fun j h_j => j ≤ m.links.length) (fun j => m.links.length - j) (0) ⟨rfl, rfl, trivial⟩ (rfl) (Nat.zero_le _) ?_
  rintro j T2 h_j E_j J_j
  refine qU [_, _] rfl ?_
  refine qE ?_
  refine qE ?_
  refine qB rfl ?_
  refine qA (qC (v := .bool _) rfl) ?_
  refine qA (qC (v := .bool _) rfl) ?_
  refine qF rfl rfl ?_
  refine qA (qC (v := .int .i64 _) rfl) ?_
  refine qF rfl rfl ?_
  refine qA (qG rfl rfl rfl rfl 7 rfl) ?_
  refine qF rfl rfl ?_
  refine qL 0 (v := .slice _ _ _) rfl rfl rfl rfl ?_
  refine qF rfl rfl ?_
  refine qA (wP rfl rfl) ?_
  refine qF rfl rfl ?_
  refine qA (qK (v := .bool _) rfl) ?_
  refine qA (qZ rfl rfl (v := .bool _) rfl) ?_
  refine qP rfl (fun hj => ?_) (fun hj => ?_)
  ·skip
   have hkl : j < m.links.length := ltI hj
   obtain ⟨g, off, hA, hc⟩ := (R.l.ext (zL (zL (zL E3 E4) E_k) E_j)).at (by omega) hkl
   obtain ⟨g2, off2, hB, hd⟩ := (R'.l.ext (zL (zL (zL E3 E4) E_k) E_j)).at (by omega) hkl
   refine qO ?_
   refine qE ?_
   refine qT ?_
   refine xp_dw [] rfl rfl rfl ?_
   refine qI (i := 0) rfl (by decide +kernel) (qG rfl rfl rfl rfl 7 rfl) ?_
   refine wE (i := 1) rfl (by decide +kernel) ?_
   refine qL 0 (v := .slice _ _ _) rfl rfl rfl rfl ?_
   refine qI (i := 2) rfl (by decide +kernel) (qC (v := .int .i64 _) rfl) ?_
   refine qI (i := 3) rfl (by decide +kernel) (wD rfl hA rfl rfl rfl (by omega) (by omega)) ?_
   refine wE (i := 4) rfl (by decide +kernel) ?_
   refine op_loadA rfl rfl rfl rfl (hc) ?_
   refine qI (i := 5) rfl (by decide +kernel) (qG rfl rfl rfl rfl 7 rfl) ?_
   refine wE (i := 6) rfl (by decide +kernel) ?_
   refine qL 1 (v := .slice _ _ _) rfl rfl rfl rfl ?_
   refine qI (i := 7) rfl (by decide +kernel) (qC (v := .int .i64 _) rfl) ?_
   refine qI (i := 8) rfl (by decide +kernel) (wD rfl hB rfl rfl rfl (by omega) (by omega)) ?_
   refine wE (i := 9) rfl (by decide +kernel) ?_
   refine op_loadA rfl rfl rfl rfl (hd) ?_
   refine qI (i := 10) rfl (by decide +kernel) (pv_eqA rfl rfl (by kernel_rfl) (linkSelf _)) ?_
   refine qI (i := 11) rfl (by decide +kernel) (qD (v := .bool _) rfl) ?_
   refine zI rfl ?_
   refine qB rfl ?_
   refine qA (qC (v := .int .i64 _) rfl) ?_
   refine qA (qS rfl (by omega)) ?_
   refine qA (qD (v := .int .i64 _) rfl) ?_
   refine ⟨j + 1, ⟨rfl, rfl, trivial⟩, rfl, rfl, E_j, fun h3 E3 => hkl, by first | omega | (dsimp only; omega), ?_⟩
   repeat (first | exact qW _ _ _ | refine wA (by decide) ?_ | refine qV rfl ?_ | refine wB rfl ?_)
  ·skip
   refine wS ?_
   refine qE ?_
   refine qB rfl ?_
   refine qA (qC (v := .bool _) rfl) ?_
   refine qA (qD (v := .bool _) rfl) ?_
   refine qQ ?_
   refine qM (vs := [_]) Tryz.results14 ⟨qJ rfl rfl, trivial⟩ fun V => ?_
   exact ⟨(zL (zL (zL (zL E3 E4) E_k) E_j) (qR V)), rfl⟩
def largeB (m : MachP) (a : HandP) : Bool := decide ((m.buttons.length : Int) > 20) || decide ((m.pins.length : Int) > 20) || decide ((m.links.length : Int) > 20) || decide ((m.weights.length : Int) > 20) || decide ((a.buttons.length : Int) > 20) || decide ((a.on.length : Int) > 20)
theorem large_ok (m : MachP) (a : HandP) (AB AQ AL AW HA OA : Option Addr) (cB cQ cL cW cH cO : Nat) (h : AH) :
  FnT Tryz.prog 5 #[machV AB AQ AL AW cB cQ cL cW m, handV HA OA cH cO a] h (fun v _ => v = .bool (largeB m a)) := by
 refine wH Tryz.func5 rfl Tryz.ntmps5 rfl ?_
 refine qE ?_
 refine qB rfl ?_
 refine op_box (v := .agg #[.int .i64 _, .int .i64 _, .int .i64 _, .int .i64 _, .int .i64 _, .slice _ _ _, .slice _ _ _, .slice _ _ _, .slice _ _ _]) (cs := [_, _, _, _, _, _, _, _, _]) rfl rfl fun b2 hb2 => ?_
 refine qN [_] rfl ?_
 refine op_box (v := .agg #[.slice _ _ _, .slice _ _ _]) (cs := [_, _]) rfl rfl fun b3 hb3 => ?_
 refine qN [_, _] rfl ?_
 refine qA (qD (v := .bool _) rfl) ?_
 rcases Bool.eq_false_or_eq_true (decide ((m.buttons.length : Int) > 20)) with e0 | e0
 ·skip
  refine qE ?_
  refine qB rfl ?_
  refine qA (qG rfl rfl rfl rfl 5 rfl) ?_
  refine qL 0 (v := .slice _ _ _) rfl rfl rfl rfl ?_
  refine qA (wP rfl rfl) ?_
  refine qA (qK (v := .bool _) rfl) ?_
  refine qA (qC (v := .bool _) rfl) ?_
  refine qH rfl e0 ?_
  refine qH rfl e0 ?_
  refine qH rfl e0 ?_
  refine qH rfl e0 ?_
  refine qA (qZ rfl e0 (v := .bool _) rfl) ?_
  refine qA (qC (v := .bool _) rfl) ?_
  refine qH rfl rfl ?_
  refine qH rfl rfl ?_
  refine qH rfl rfl ?_
  refine qH rfl rfl ?_
  refine qA (qZ rfl rfl (v := .bool _) rfl) ?_
  refine qA (qC (v := .bool _) rfl) ?_
  refine qH rfl rfl ?_
  refine qH rfl rfl ?_
  refine qH rfl rfl ?_
  refine qH rfl rfl ?_
  refine qA (qZ rfl rfl (v := .bool _) rfl) ?_
  refine qA (qC (v := .bool _) rfl) ?_
  refine qH rfl rfl ?_
  refine qH rfl rfl ?_
  refine qH rfl rfl ?_
  refine qH rfl rfl ?_
  refine qA (qZ rfl rfl (v := .bool _) rfl) ?_
  refine qA (qC (v := .bool _) rfl) ?_
  refine qH rfl rfl ?_
  refine qH rfl rfl ?_
  refine qH rfl rfl ?_
  refine qH rfl rfl ?_
  refine qA (qZ rfl rfl (v := .bool _) rfl) ?_
  refine qA (qD (v := .bool _) rfl) ?_
  refine qQ ?_
  refine qM (vs := [_]) Tryz.results5 ⟨qJ rfl rfl, trivial⟩ fun V => ?_
  exact ⟨(qR V), boolE (by rw [largeB, e0]; simp)⟩
 ·skip
  rcases Bool.eq_false_or_eq_true (decide ((m.pins.length : Int) > 20)) with e1 | e1
  ·skip
   refine qE ?_
   refine qB rfl ?_
   refine qA (qG rfl rfl rfl rfl 5 rfl) ?_
   refine qL 0 (v := .slice _ _ _) rfl rfl rfl rfl ?_
   refine qA (wP rfl rfl) ?_
   refine qA (qK (v := .bool _) rfl) ?_
   refine qA (qC (v := .bool _) rfl) ?_
   refine qF rfl e0 ?_
   refine qA (qG rfl rfl rfl rfl 6 rfl) ?_
   refine qF rfl e0 ?_
   refine qL 0 (v := .slice _ _ _) rfl rfl rfl rfl ?_
   refine qF rfl e0 ?_
   refine qA (wP rfl rfl) ?_
   refine qF rfl e0 ?_
   refine qA (qK (v := .bool _) rfl) ?_
   refine qA (wI rfl e0 (v := .bool _) rfl) ?_
   refine qA (qC (v := .bool _) rfl) ?_
   refine qH rfl e1 ?_
   refine qH rfl e1 ?_
   refine qH rfl e1 ?_
   refine qH rfl e1 ?_
   refine qA (qZ rfl e1 (v := .bool _) rfl) ?_
   refine qA (qC (v := .bool _) rfl) ?_
   refine qH rfl rfl ?_
   refine qH rfl rfl ?_
   refine qH rfl rfl ?_
   refine qH rfl rfl ?_
   refine qA (qZ rfl rfl (v := .bool _) rfl) ?_
   refine qA (qC (v := .bool _) rfl) ?_
   refine qH rfl rfl ?_
   refine qH rfl rfl ?_
   refine qH rfl rfl ?_
   refine qH rfl rfl ?_
   refine qA (qZ rfl rfl (v := .bool _) rfl) ?_
   refine qA (qC (v := .bool _) rfl) ?_
   refine qH rfl rfl ?_
   refine qH rfl rfl ?_
   refine qH rfl rfl ?_
   refine qH rfl rfl ?_
   refine qA (qZ rfl rfl (v := .bool _) rfl) ?_
   refine qA (qD (v := .bool _) rfl) ?_
   refine qQ ?_
   refine qM (vs := [_]) Tryz.results5 ⟨qJ rfl rfl, trivial⟩ fun V => ?_
   exact ⟨(qR V), boolE (by rw [largeB, e0, e1]; simp)⟩
  ·skip
   rcases Bool.eq_false_or_eq_true (decide ((m.links.length : Int) > 20)) with e2 | e2
   ·skip
    refine qE ?_
    refine qB rfl ?_
    refine qA (qG rfl rfl rfl rfl 5 rfl) ?_
    refine qL 0 (v := .slice _ _ _) rfl rfl rfl rfl ?_
    refine qA (wP rfl rfl) ?_
    refine qA (qK (v := .bool _) rfl) ?_
    refine qA (qC (v := .bool _) rfl) ?_
    refine qF rfl e0 ?_
    refine qA (qG rfl rfl rfl rfl 6 rfl) ?_
    refine qF rfl e0 ?_
    refine qL 0 (v := .slice _ _ _) rfl rfl rfl rfl ?_
    refine qF rfl e0 ?_
    refine qA (wP rfl rfl) ?_
    refine qF rfl e0 ?_
    refine qA (qK (v := .bool _) rfl) ?_
    refine qA (wI rfl e0 (v := .bool _) rfl) ?_
    refine qA (qC (v := .bool _) rfl) ?_
    refine qF rfl e1 ?_
    refine qA (qG rfl rfl rfl rfl 7 rfl) ?_
    refine qF rfl e1 ?_
    refine qL 0 (v := .slice _ _ _) rfl rfl rfl rfl ?_
    refine qF rfl e1 ?_
    refine qA (wP rfl rfl) ?_
    refine qF rfl e1 ?_
    refine qA (qK (v := .bool _) rfl) ?_
    refine qA (wI rfl e1 (v := .bool _) rfl) ?_
    refine qA (qC (v := .bool _) rfl) ?_
    refine qH rfl e2 ?_
    refine qH rfl e2 ?_
    refine qH rfl e2 ?_
    refine qH rfl e2 ?_
    refine qA (qZ rfl e2 (v := .bool _) rfl) ?_
    refine qA (qC (v := .bool _) rfl) ?_
    refine qH rfl rfl ?_
    refine qH rfl rfl ?_
    refine qH rfl rfl ?_
    refine qH rfl rfl ?_
    refine qA (qZ rfl rfl (v := .bool _) rfl) ?_
    refine qA (qC (v := .bool _) rfl) ?_
    refine qH rfl rfl ?_
    refine qH rfl rfl ?_
    refine qH rfl rfl ?_
    refine qH rfl rfl ?_
    refine qA (qZ rfl rfl (v := .bool _) rfl) ?_
    refine qA (qD (v := .bool _) rfl) ?_
    refine qQ ?_
    refine qM (vs := [_]) Tryz.results5 ⟨qJ rfl rfl, trivial⟩ fun V => ?_
    exact ⟨(qR V), boolE (by rw [largeB, e0, e1, e2]; simp)⟩
   ·skip
    rcases Bool.eq_false_or_eq_true (decide ((m.weights.length : Int) > 20)) with e3 | e3
    ·skip
     refine qE ?_
     refine qB rfl ?_
     refine qA (qG rfl rfl rfl rfl 5 rfl) ?_
     refine qL 0 (v := .slice _ _ _) rfl rfl rfl rfl ?_
     refine qA (wP rfl rfl) ?_
     refine qA (qK (v := .bool _) rfl) ?_
     refine qA (qC (v := .bool _) rfl) ?_
     refine qF rfl e0 ?_
     refine qA (qG rfl rfl rfl rfl 6 rfl) ?_
     refine qF rfl e0 ?_
     refine qL 0 (v := .slice _ _ _) rfl rfl rfl rfl ?_
     refine qF rfl e0 ?_
     refine qA (wP rfl rfl) ?_
     refine qF rfl e0 ?_
     refine qA (qK (v := .bool _) rfl) ?_
     refine qA (wI rfl e0 (v := .bool _) rfl) ?_
     refine qA (qC (v := .bool _) rfl) ?_
     refine qF rfl e1 ?_
     refine qA (qG rfl rfl rfl rfl 7 rfl) ?_
     refine qF rfl e1 ?_
     refine qL 0 (v := .slice _ _ _) rfl rfl rfl rfl ?_
     refine qF rfl e1 ?_
     refine qA (wP rfl rfl) ?_
     refine qF rfl e1 ?_
     refine qA (qK (v := .bool _) rfl) ?_
     refine qA (wI rfl e1 (v := .bool _) rfl) ?_
     refine qA (qC (v := .bool _) rfl) ?_
     refine qF rfl e2 ?_
     refine qA (qG rfl rfl rfl rfl 8 rfl) ?_
     refine qF rfl e2 ?_
     refine qL 0 (v := .slice _ _ _) rfl rfl rfl rfl ?_
     refine qF rfl e2 ?_
     refine qA (wP rfl rfl) ?_
     refine qF rfl e2 ?_
     refine qA (qK (v := .bool _) rfl) ?_
     refine qA (wI rfl e2 (v := .bool _) rfl) ?_
     refine qA (qC (v := .bool _) rfl) ?_
     refine qH rfl e3 ?_
     refine qH rfl e3 ?_
     refine qH rfl e3 ?_
     refine qH rfl e3 ?_
     refine qA (qZ rfl e3 (v := .bool _) rfl) ?_
     refine qA (qC (v := .bool _) rfl) ?_
     refine qH rfl rfl ?_
     refine qH rfl rfl ?_
     refine qH rfl rfl ?_
     refine qH rfl rfl ?_
     refine qA (qZ rfl rfl (v := .bool _) rfl) ?_
     refine qA (qD (v := .bool _) rfl) ?_
     refine qQ ?_
     refine qM (vs := [_]) Tryz.results5 ⟨qJ rfl rfl, trivial⟩ fun V => ?_
     exact ⟨(qR V), boolE (by rw [largeB, e0, e1, e2, e3]; simp)⟩
    ·skip
     rcases Bool.eq_false_or_eq_true (decide ((a.buttons.length : Int) > 20)) with e4 | e4
     ·skip
      refine qE ?_
      refine qB rfl ?_
      refine qA (qG rfl rfl rfl rfl 5 rfl) ?_
      refine qL 0 (v := .slice _ _ _) rfl rfl rfl rfl ?_
      refine qA (wP rfl rfl) ?_
      refine qA (qK (v := .bool _) rfl) ?_
      refine qA (qC (v := .bool _) rfl) ?_
      refine qF rfl e0 ?_
      refine qA (qG rfl rfl rfl rfl 6 rfl) ?_
      refine qF rfl e0 ?_
      refine qL 0 (v := .slice _ _ _) rfl rfl rfl rfl ?_
      refine qF rfl e0 ?_
      refine qA (wP rfl rfl) ?_
      refine qF rfl e0 ?_
      refine qA (qK (v := .bool _) rfl) ?_
      refine qA (wI rfl e0 (v := .bool _) rfl) ?_
      refine qA (qC (v := .bool _) rfl) ?_
      refine qF rfl e1 ?_
      refine qA (qG rfl rfl rfl rfl 7 rfl) ?_
      refine qF rfl e1 ?_
      refine qL 0 (v := .slice _ _ _) rfl rfl rfl rfl ?_
      refine qF rfl e1 ?_
      refine qA (wP rfl rfl) ?_
      refine qF rfl e1 ?_
      refine qA (qK (v := .bool _) rfl) ?_
      refine qA (wI rfl e1 (v := .bool _) rfl) ?_
      refine qA (qC (v := .bool _) rfl) ?_
      refine qF rfl e2 ?_
      refine qA (qG rfl rfl rfl rfl 8 rfl) ?_
      refine qF rfl e2 ?_
      refine qL 0 (v := .slice _ _ _) rfl rfl rfl rfl ?_
      refine qF rfl e2 ?_
      refine qA (wP rfl rfl) ?_
      refine qF rfl e2 ?_
      refine qA (qK (v := .bool _) rfl) ?_
      refine qA (wI rfl e2 (v := .bool _) rfl) ?_
      refine qA (qC (v := .bool _) rfl) ?_
      refine qF rfl e3 ?_
      refine qA (qG rfl rfl rfl rfl 0 rfl) ?_
      refine qF rfl e3 ?_
      refine qL 1 (v := .slice _ _ _) rfl rfl rfl rfl ?_
      refine qF rfl e3 ?_
      refine qA (wP rfl rfl) ?_
      refine qF rfl e3 ?_
      refine qA (qK (v := .bool _) rfl) ?_
      refine qA (wI rfl e3 (v := .bool _) rfl) ?_
      refine qA (qC (v := .bool _) rfl) ?_
      refine qH rfl e4 ?_
      refine qH rfl e4 ?_
      refine qH rfl e4 ?_
      refine qH rfl e4 ?_
      refine qA (qZ rfl e4 (v := .bool _) rfl) ?_
      refine qA (qD (v := .bool _) rfl) ?_
      refine qQ ?_
      refine qM (vs := [_]) Tryz.results5 ⟨qJ rfl rfl, trivial⟩ fun V => ?_
      exact ⟨(qR V), boolE (by rw [largeB, e0, e1, e2, e3, e4]; simp)⟩
     ·skip
      refine qE ?_
      refine qB rfl ?_
      refine qA (qG rfl rfl rfl rfl 5 rfl) ?_
      refine qL 0 (v := .slice _ _ _) rfl rfl rfl rfl ?_
      refine qA (wP rfl rfl) ?_
      refine qA (qK (v := .bool _) rfl) ?_
      refine qA (qC (v := .bool _) rfl) ?_
      refine qF rfl e0 ?_
      refine qA (qG rfl rfl rfl rfl 6 rfl) ?_
      refine qF rfl e0 ?_
      refine qL 0 (v := .slice _ _ _) rfl rfl rfl rfl ?_
      refine qF rfl e0 ?_
      refine qA (wP rfl rfl) ?_
      refine qF rfl e0 ?_
      refine qA (qK (v := .bool _) rfl) ?_
      refine qA (wI rfl e0 (v := .bool _) rfl) ?_
      refine qA (qC (v := .bool _) rfl) ?_
      refine qF rfl e1 ?_
      refine qA (qG rfl rfl rfl rfl 7 rfl) ?_
      refine qF rfl e1 ?_
      refine qL 0 (v := .slice _ _ _) rfl rfl rfl rfl ?_
      refine qF rfl e1 ?_
      refine qA (wP rfl rfl) ?_
      refine qF rfl e1 ?_
      refine qA (qK (v := .bool _) rfl) ?_
      refine qA (wI rfl e1 (v := .bool _) rfl) ?_
      refine qA (qC (v := .bool _) rfl) ?_
      refine qF rfl e2 ?_
      refine qA (qG rfl rfl rfl rfl 8 rfl) ?_
      refine qF rfl e2 ?_
      refine qL 0 (v := .slice _ _ _) rfl rfl rfl rfl ?_
      refine qF rfl e2 ?_
      refine qA (wP rfl rfl) ?_
      refine qF rfl e2 ?_
      refine qA (qK (v := .bool _) rfl) ?_
      refine qA (wI rfl e2 (v := .bool _) rfl) ?_
      refine qA (qC (v := .bool _) rfl) ?_
      refine qF rfl e3 ?_
      refine qA (qG rfl rfl rfl rfl 0 rfl) ?_
      refine qF rfl e3 ?_
      refine qL 1 (v := .slice _ _ _) rfl rfl rfl rfl ?_
      refine qF rfl e3 ?_
      refine qA (wP rfl rfl) ?_
      refine qF rfl e3 ?_
      refine qA (qK (v := .bool _) rfl) ?_
      refine qA (wI rfl e3 (v := .bool _) rfl) ?_
      refine qA (qC (v := .bool _) rfl) ?_
      refine qF rfl e4 ?_
      refine qA (qG rfl rfl rfl rfl 1 rfl) ?_
      refine qF rfl e4 ?_
      refine qL 1 (v := .slice _ _ _) rfl rfl rfl rfl ?_
      refine qF rfl e4 ?_
      refine qA (wP rfl rfl) ?_
      refine qF rfl e4 ?_
      refine qA (qK (v := .bool _) rfl) ?_
      refine qA (wI rfl e4 (v := .bool _) rfl) ?_
      refine qA (qD (v := .bool _) rfl) ?_
      refine qQ ?_
      refine qM (vs := [_]) Tryz.results5 ⟨qJ rfl rfl, trivial⟩ fun V => ?_
      exact ⟨(qR V), boolE (by rw [largeB, e0, e1, e2, e3, e4]; rfl)⟩
theorem large_sml {m : MachP} {a : HandP} (h : largeB m a = false) : Sml m ∧ SmlH a := by
 simp only [largeB, Bool.or_eq_false_iff, decide_eq_false_iff_not] at h
 obtain ⟨⟨⟨⟨⟨h1, h2⟩, h3⟩, h4⟩, h5⟩, h6⟩ := h
 exact ⟨⟨by omega, by omega, by omega, by omega⟩, ⟨by omega, by omega⟩⟩
end
end Go.Proofs.YtmpahfdiebhdbaaGreatDoor
namespace Go.Proofs.YtmpahfdiebhdbaaGreatDoor
open Go Go.HL Go.Proofs Go.Wx Go.Rd
theorem writeM_short {size pins links : Int} {m : MachP} (D : Made size pins links m) (hp : pins ≤ 8) (hl : links ≤ 4) : (writeM m).length ≤ 400 := by
 have M := D.ok
 have b1 := D.bl
 have b2 := D.pl
 have b3 := D.ll
 have b4 := M.wl
 have b5 := M.levers
 have z0 := lineM_len [77] [m.rods, m.levers, m.regs, m.travel, m.opn]
 have z1 := flat_le btnL 7 (fun r => lineM_len [66] [r]) m.buttons
 have z2 := flat_le pinL 17 (fun r => lineM_len [80] [r.rod, r.lever, r.lag]) m.pins
 have z3 := flat_le lnkL 22 (fun r => lineM_len [76] [r.frm, r.to, r.reg, r.lag]) m.links
 have z4 := flat_le wgtL 7 (fun r => lineM_len [87] [r]) m.weights
 unfold writeM wr4 wr3 wr2 wr1 headL
 simp only [List.length_append, List.length_cons, List.length_nil] at *
 omega
section
set_option maxRecDepth 100000
end
end Go.Proofs.YtmpahfdiebhdbaaGreatDoor
namespace Go.Proofs.YtmpahfdiebhdbaaGreatDoor
open Go Go.HL Go.Proofs Go.Wx Go.Rd
section
variable [Lvl]
set_option maxRecDepth 100000
end
end Go.Proofs.YtmpahfdiebhdbaaGreatDoor
namespace Go.Proofs.YtmpahfdiebhdbaaGreatDoor
open Go Go.HL Go.Proofs Go.Wx Go.Rd
section
variable [Lvl]
set_option maxRecDepth 100000
end
end Go.Proofs.YtmpahfdiebhdbaaGreatDoor
namespace Go.HL
open Go Go.Wx Go.RowKit Go.ChangeShapes Go.WideShapes
variable [Lvl]
section
variable {H : Type} {enc : TypeId × Value → H} {P : Program} {w : World} {base : Nat} {spare : Nat → Bool} {held : Bool}
theorem row_sliceC {α : Type} (en : α → List Value) {t e : TypeId} {m fuel : Nat} {cs : List Value} {x : DataW H × List MemPlace} (ht : P.underlying t = some (.slice e)) (hc : P.cellsOf e = m) (hm : 0 < m) (he : ∀ a, (en a).length = m)
  (leaf : ∀ n cs x, DataW.trod enc P w base spare held n e cs = some x → ∃ a, cs = en a) (h : DataW.trod enc P w base spare held fuel t cs = some x) :
  ∃ (A : Option Addr) (len cap : Nat) (l : List α), cs = [.slice A len cap] ∧ l.length = len ∧ Row (absH w.heap) m en A l ∧ len ≤ cap ∧ cap ≤ maxLen := by
 rcases Go.Deep.open_slice ht h with ⟨rfl, _⟩ | ⟨a, len, cap, mm, n, D, Pl, rfl, hb, hl, hmx, hmm, _, hel⟩
 ·exact ⟨none, 0, 0, [], rfl, rfl, ⟨fun _ h => (by cases h), Rd.nil _ _⟩, Nat.le_refl _, Nat.zero_le _⟩
 ·have hlm : len ≤ mm := by rw [hmm]; split <;> omega
  have key : ∀ i : _root_.Fin len, ∃ v : α, w.cells? base (a.add (i.val * m)) m = some (en v) := by
   intro i
   obtain ⟨cs', h1, h2⟩ := hel i.val (by have := i.isLt; omega)
   obtain ⟨v, rfl⟩ := leaf _ _ _ h2
   rw [hc] at h1
   exact ⟨v, h1⟩
  let l := List.ofFn fun i : _root_.Fin len => Classical.choose (key i)
  have hll : l.length = len := by simp [l]
  have hat : ∀ (i : Nat) (hi : i < l.length), w.cells? base (a.add (i * m)) m = some (en l[i]) := by
   intro i hi
   have := Classical.choose_spec (key ⟨i, by omega⟩)
   simpa [l] using this
  refine ⟨some a, len, cap, l, rfl, hll, ⟨fun x _ => he x, fun hne => ?_⟩, hl, hmx⟩
  have hpos : 0 < l.length := by
   rcases Nat.eq_zero_or_pos l.length with h0 | h0
   ·rw [List.eq_nil_of_length_eq_zero h0] at hne; simp at hne
   ·exact h0
  obtain ⟨g, off, sp⟩ := a
  have h0 := hat 0 hpos
  obtain ⟨_, _, hcell⟩ := World.cells?_some h0
  have h00 := hcell 0 hm
  rw [Go.Deep.add_add, Nat.zero_mul, Nat.add_zero, List.getElem?_eq_getElem (by rw [he]; exact hm)] at h00
  have hsp : sp = none := by
   cases sp with
   | none => rfl
   | some s =>
    exfalso
    have : w.cell? ((⟨g, off, some s⟩ : Addr).add 0) = none := by
     simp only [Addr.add]
     rw [cell_abs]
     unfold cellA
     split <;> simp
    rw [this] at h00
    cases h00
  subst hsp
  refine ⟨g, off, rfl, fun j u hu => ?_⟩
  have hj : j < l.length * m := by
   have := (List.getElem?_eq_some_iff.1 hu).1
   rwa [wU (fun x _ => he x)] at this
  have hi : j / m < l.length := Nat.div_lt_of_lt_mul (by rw [Nat.mul_comm]; exact hj)
  have hr : j % m < m := Nat.mod_lt _ hm
  have hjm : j / m * m + j % m = j := by rw [Nat.mul_comm]; exact Nat.div_add_mod j m
  obtain ⟨_, _, hcl⟩ := World.cells?_some (hat (j / m) hi)
  have h1 := hcl (j % m) hr
  have h2 : (en l[j / m])[j % m]? = some ((en l[j / m])[j % m]'(by rw [he]; exact hr)) := List.getElem?_eq_getElem _
  have h3 := flat_get en m l (fun x _ => he x) (j / m) _ (List.getElem?_eq_getElem hi) (j % m) _ h2
  rw [hjm, hu] at h3
  rw [h2, ← h3, Go.Deep.add_add, hjm, cell_abs, add_none] at h1
  exact h1
end
end Go.HL
namespace Go.Rd
structure EvP where
 kind : Int
 which : Int
end Go.Rd
namespace Go.Proofs.YtmpahfdiebhdbaaGreatDoor
open Go Go.HL Go.Wx Go.Rd Go.RowKit Go.ChangeShapes Go.WideShapes
variable [Lvl]
set_option maxRecDepth 100000
theorem cellsT_int : Tryz.prog.cellsOf 3 = 1 := by kernel_rfl
theorem cellsT_ints : Tryz.prog.cellsOf 22 = 1 := by kernel_rfl
theorem cellsT_pins : Tryz.prog.cellsOf 23 = 1 := by kernel_rfl
theorem cellsT_links : Tryz.prog.cellsOf 24 = 1 := by kernel_rfl
theorem cellsT_pin : Tryz.prog.cellsOf 65 = 3 := by kernel_rfl
theorem cellsT_link : Tryz.prog.cellsOf 67 = 4 := by kernel_rfl
theorem cellsT_mach : Tryz.prog.cellsOf 26 = 9 := by kernel_rfl
section
variable {H : Type} {enc : TypeId × Value → H} {w : World} {base : Nat} {spare : Nat → Bool} {held : Bool}
theorem ud_at {α : Type} {xs : List α} {n i : Nat} (h : xs.length = n) (hi : i < n) : ∃ y, xs[i]? = some y := ⟨_, List.getElem?_eq_getElem (by omega)⟩
theorem leaf_int {n : Nat} {cs : List Value} {x : DataW H × List MemPlace} (h : DataW.trod enc Tryz.prog w base spare held n 3 cs = some x) : ∃ z : Int, cs = [.int .i64 z] := by
 obtain ⟨z, e, _⟩ := DataW.trod_int Tryz.underlying3 h
 exact ⟨z, e⟩
theorem leaf_pin {n : Nat} {cs : List Value} {x : DataW H × List MemPlace} (h : DataW.trod enc Tryz.prog w base spare held n 65 cs = some x) : ∃ p : PinP, cs = pinC p := by
 obtain ⟨xs, m, _, _, hl, hx, hf⟩ := DataW.trod_struct Tryz.underlying65 h
 rw [cellsT_pin] at hl
 obtain ⟨y0, e0⟩ := ud_at (i := 0) hx (by decide)
 obtain ⟨a0, h0⟩ := leaf_int ((show DataW.trod enc Tryz.prog w base spare held m 3 ((cs.drop 0).take (Tryz.prog.cellsOf 3)) = xs[0]? from hf 0 _ rfl).trans e0)
 obtain ⟨y1, e1⟩ := ud_at (i := 1) hx (by decide)
 obtain ⟨a1, h1⟩ := leaf_int ((show DataW.trod enc Tryz.prog w base spare held m 3 ((cs.drop 1).take (Tryz.prog.cellsOf 3)) = xs[1]? from hf 1 _ rfl).trans e1)
 obtain ⟨y2, e2⟩ := ud_at (i := 2) hx (by decide)
 obtain ⟨a2, h2⟩ := leaf_int ((show DataW.trod enc Tryz.prog w base spare held m 3 ((cs.drop 2).take (Tryz.prog.cellsOf 3)) = xs[2]? from hf 2 _ rfl).trans e2)
 rw [cellsT_int] at h0 h1 h2
 match cs, hl with
 | [u0, u1, u2], _ =>
  simp at h0 h1 h2
  exact ⟨⟨a0, a1, a2⟩, by rw [h0, h1, h2]; rfl⟩
theorem leaf_link {n : Nat} {cs : List Value} {x : DataW H × List MemPlace} (h : DataW.trod enc Tryz.prog w base spare held n 67 cs = some x) : ∃ p : LinkP, cs = linkC p := by
 obtain ⟨xs, m, _, _, hl, hx, hf⟩ := DataW.trod_struct Tryz.underlying67 h
 rw [cellsT_link] at hl
 obtain ⟨y0, e0⟩ := ud_at (i := 0) hx (by decide)
 obtain ⟨a0, h0⟩ := leaf_int ((show DataW.trod enc Tryz.prog w base spare held m 3 ((cs.drop 0).take (Tryz.prog.cellsOf 3)) = xs[0]? from hf 0 _ rfl).trans e0)
 obtain ⟨y1, e1⟩ := ud_at (i := 1) hx (by decide)
 obtain ⟨a1, h1⟩ := leaf_int ((show DataW.trod enc Tryz.prog w base spare held m 3 ((cs.drop 1).take (Tryz.prog.cellsOf 3)) = xs[1]? from hf 1 _ rfl).trans e1)
 obtain ⟨y2, e2⟩ := ud_at (i := 2) hx (by decide)
 obtain ⟨a2, h2⟩ := leaf_int ((show DataW.trod enc Tryz.prog w base spare held m 3 ((cs.drop 2).take (Tryz.prog.cellsOf 3)) = xs[2]? from hf 2 _ rfl).trans e2)
 obtain ⟨y3, e3⟩ := ud_at (i := 3) hx (by decide)
 obtain ⟨a3, h3⟩ := leaf_int ((show DataW.trod enc Tryz.prog w base spare held m 3 ((cs.drop 3).take (Tryz.prog.cellsOf 3)) = xs[3]? from hf 3 _ rfl).trans e3)
 rw [cellsT_int] at h0 h1 h2 h3
 match cs, hl with
 | [u0, u1, u2, u3], _ =>
  simp at h0 h1 h2 h3
  exact ⟨⟨a0, a1, a2, a3⟩, by rw [h0, h1, h2, h3]; rfl⟩
theorem mach_in {r : Reach} {b0 : Nat} {v : Value} {d : DataW H} {p : List MemPlace} (hv : Value.okWide Tryz.prog w r b0 26 v) (h : DataW.Trod enc Tryz.prog w base spare held 26 v d p) :
  ∃ (m : MachP) (AB AQ AL AW : Option Addr) (cB cQ cL cW : Nat), v = machV AB AQ AL AW cB cQ cL cW m ∧ MachR (absH w.heap) AB AQ AL AW m ∧ m.pins.length ≤ cQ ∧ m.links.length ≤ cL := by
 obtain ⟨⟨cs⟩, rfl, hs⟩ := okWide_struct Tryz.underlying26 hv
 obtain ⟨fuel, hf0⟩ := h
 have hcs : (Value.agg ⟨cs⟩).cells.toList = cs := rfl
 rw [hcs] at hf0
 obtain ⟨xs, m, _, _, hl, hx, hf⟩ := DataW.trod_struct Tryz.underlying26 hf0
 rw [cellsT_mach] at hl
 obtain ⟨y0, e0⟩ := ud_at (i := 0) hx (by decide)
 obtain ⟨y1, e1⟩ := ud_at (i := 1) hx (by decide)
 obtain ⟨y2, e2⟩ := ud_at (i := 2) hx (by decide)
 obtain ⟨y3, e3⟩ := ud_at (i := 3) hx (by decide)
 obtain ⟨y4, e4⟩ := ud_at (i := 4) hx (by decide)
 obtain ⟨y5, e5⟩ := ud_at (i := 5) hx (by decide)
 obtain ⟨y6, e6⟩ := ud_at (i := 6) hx (by decide)
 obtain ⟨y7, e7⟩ := ud_at (i := 7) hx (by decide)
 obtain ⟨y8, e8⟩ := ud_at (i := 8) hx (by decide)
 obtain ⟨a0, h0⟩ := leaf_int ((show DataW.trod enc Tryz.prog w base spare held m 3 ((cs.drop 0).take (Tryz.prog.cellsOf 3)) = xs[0]? from hf 0 _ rfl).trans e0)
 obtain ⟨a1, h1⟩ := leaf_int ((show DataW.trod enc Tryz.prog w base spare held m 3 ((cs.drop 1).take (Tryz.prog.cellsOf 3)) = xs[1]? from hf 1 _ rfl).trans e1)
 obtain ⟨a2, h2⟩ := leaf_int ((show DataW.trod enc Tryz.prog w base spare held m 3 ((cs.drop 2).take (Tryz.prog.cellsOf 3)) = xs[2]? from hf 2 _ rfl).trans e2)
 obtain ⟨a3, h3⟩ := leaf_int ((show DataW.trod enc Tryz.prog w base spare held m 3 ((cs.drop 3).take (Tryz.prog.cellsOf 3)) = xs[3]? from hf 3 _ rfl).trans e3)
 obtain ⟨a4, h4⟩ := leaf_int ((show DataW.trod enc Tryz.prog w base spare held m 3 ((cs.drop 4).take (Tryz.prog.cellsOf 3)) = xs[4]? from hf 4 _ rfl).trans e4)
 obtain ⟨A5, n5, c5, l5, h5, k5, R5, hc5, _⟩ := row_sliceC intC Tryz.underlying22 cellsT_int (by omega) (fun _ => rfl) (fun _ _ _ => leaf_int) ((show DataW.trod enc Tryz.prog w base spare held m 22 ((cs.drop 5).take (Tryz.prog.cellsOf 22)) = xs[5]? from hf 5 _ rfl).trans e5)
 obtain ⟨A6, n6, c6, l6, h6, k6, R6, hc6, _⟩ := row_sliceC pinC Tryz.underlying23 cellsT_pin (by omega) (fun _ => rfl) (fun _ _ _ => leaf_pin) ((show DataW.trod enc Tryz.prog w base spare held m 23 ((cs.drop 6).take (Tryz.prog.cellsOf 23)) = xs[6]? from hf 6 _ rfl).trans e6)
 obtain ⟨A7, n7, c7, l7, h7, k7, R7, hc7, _⟩ := row_sliceC linkC Tryz.underlying24 cellsT_link (by omega) (fun _ => rfl) (fun _ _ _ => leaf_link) ((show DataW.trod enc Tryz.prog w base spare held m 24 ((cs.drop 7).take (Tryz.prog.cellsOf 24)) = xs[7]? from hf 7 _ rfl).trans e7)
 obtain ⟨A8, n8, c8, l8, h8, k8, R8, hc8, _⟩ := row_sliceC intC Tryz.underlying22 cellsT_int (by omega) (fun _ => rfl) (fun _ _ _ => leaf_int) ((show DataW.trod enc Tryz.prog w base spare held m 22 ((cs.drop 8).take (Tryz.prog.cellsOf 22)) = xs[8]? from hf 8 _ rfl).trans e8)
 rw [cellsT_int] at h0 h1 h2 h3 h4
 rw [cellsT_ints] at h5 h8
 rw [cellsT_pins] at h6
 rw [cellsT_links] at h7
 match cs, hl with
 | [u0, u1, u2, u3, u4, u5, u6, u7, u8], _ =>
  simp at h0 h1 h2 h3 h4 h5 h6 h7 h8
  refine ⟨⟨a0, a1, a2, a3, a4, l5, l6, l7, l8⟩, A5, A6, A7, A8, c5, c6, c7, c8, ?_, ⟨R5, R6, R7, R8⟩, by show l6.length ≤ c6; omega, by show l7.length ≤ c7; omega⟩
  rw [h0, h1, h2, h3, h4, h5, h6, h7, h8, ← k5, ← k6, ← k7, ← k8]
theorem ints_in {r : Reach} {b0 : Nat} {v : Value} {d : DataW H} {p : List MemPlace} (hv : Value.okWide Tryz.prog w r b0 22 v) (h : DataW.Trod enc Tryz.prog w base spare held 22 v d p) :
  ∃ (l : List Int) (A : Option Addr) (c : Nat), v = .slice A l.length c ∧ Row (absH w.heap) 1 intC A l ∧ l.length ≤ maxLen := by
 obtain ⟨a0, len0, cap0, rfl⟩ := okWide_slice Tryz.underlying22 hv
 obtain ⟨fuel, hf⟩ := h
 obtain ⟨A, n, c, l, e, k, R, h1, h2⟩ := row_sliceC intC Tryz.underlying22 cellsT_int (by omega) (fun _ => rfl) (fun _ _ _ => leaf_int) hf
 have hcs : (Value.slice a0 len0 cap0).cells.toList = [.slice a0 len0 cap0] := rfl
 rw [hcs] at e
 simp at e
 obtain ⟨rfl, rfl, rfl⟩ := e
 subst k
 exact ⟨l, _, _, rfl, R, Nat.le_trans h1 h2⟩
end
end Go.Proofs.YtmpahfdiebhdbaaGreatDoor
namespace Go.Proofs.YtmpahfdiebhdbaaGreatDoor
open Go Go.HL Go.Proofs Go.Wx Go.Rd
section
variable [Lvl]
set_option maxRecDepth 100000
theorem AccR.room {e : TypeId} {m : Nat} {cs : List Value} {a : Acc} (r : AccR e m cs a) (hm : 0 < m) : a.n ≤ a.c := by
 rcases r with ⟨_, _, A, ev⟩ | ⟨b, len, cap, junk, hl, ev, _, hc⟩
 ·injection ev with _ h1 h2; omega
 ·injection ev with _ h1 h2
  rw [List.length_append, hl] at hc
  have : len * m ≤ cap * m := by omega
  have := Nat.le_of_mul_le_mul_right this hm
  omega
theorem Made.sml {s p l : Int} {m : MachP} (M : Made s p l m) : Sml m := by
 have h1 := M.ok.bl
 have h2 := M.ok.pl
 have h3 := M.ok.ll
 have h4 := M.ok.wl
 have h5 := M.ok.levers
 exact ⟨by omega, by omega, by omega, by omega⟩
theorem HOK.sml {m : MachP} {a : HandP} (M : MOK m) (H : HOK m a) : SmlH a := by
 have F := fit_of M H
 have h1 := F.hl
 have h2 := F.ol
 exact ⟨by omega, by omega⟩
end
end Go.Proofs.YtmpahfdiebhdbaaGreatDoor
