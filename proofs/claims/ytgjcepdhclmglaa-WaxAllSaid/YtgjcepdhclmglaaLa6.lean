/- An own logic over the model, its walks and its plain laws, joined of parts L1 W49 W50 W51 W52 W53 Ts Tt Tu L3 L2 W42 W43 L4. Conditions: as each theorem states. -/
import Derived.Test.YtgjcepdhclmglaaLa5
import Derived.Test.YtgjcepdhclmglaaLa3
set_option linter.all false
namespace Go.Proofs.Ytgjcepdhclmglaa
open Go Go.HL Go.Proofs Go.Wx
def booC (b : Bool) : List Value := [.bool b]
def flB (y : Fl) : List Bool := [y.causes.testBit 0, y.causes.testBit 1, y.causes.testBit 2]
section
variable [Lvl]
set_option maxRecDepth 100000
def FlV (h : AH) (y : Fl) (v : Value) : Prop := ∃ u, v = .tuple #[.int .i64 (y.week : Int), u] ∧ SlR h 1 booC (flB y) u
theorem flV_of {h : AH} {y : Fl} {w : Int} {b0 b1 b2 : Bool} (e : flR y = [.int .i64 w, .bool b0, .bool b1, .bool b2]) {u : Value} (r : SlR h 1 booC [b0, b1, b2] u) : FlV h y (.tuple #[.int .i64 w, u]) := by
 unfold flR at e
 simp only [List.cons.injEq, Value.int.injEq, Value.bool.injEq, true_and, and_true] at e
 obtain ⟨e1, e2, e3, e4⟩ := e
 refine ⟨u, by rw [e1], ?_⟩
 unfold flB
 rw [e2, e3, e4]
 exact r
set_option maxHeartbeats 4000000 in
theorem lfails_ok (x : List Int) (h6 : x.length ≤ 6) (hi lo : Int) (many life : Nat) (hm : 1 ≤ many) (hm2 : many ≤ 100) (A B : Option Addr) (cA cB : Nat) (h : AH) (R : Row h 1 intC A x) (RO : Row h 1 intC B [hi, lo, (many : Int), (life : Int)]) :
  FnT Try.prog 10 #[.slice A x.length cA, .slice B 4 cB] h (fun v h' => FlV h' (failM (skyOf x) x.length hi lo many life) v) := by
 obtain ⟨p0, o0, i0, j0⟩ := RO.at (by decide) (i := 0) (by simp)
 obtain ⟨p1, o1, i1, j1⟩ := RO.at (by decide) (i := 1) (by simp)
 obtain ⟨p2, o2, i2, j2⟩ := RO.at (by decide) (i := 2) (by simp)
 obtain ⟨p3, o3, i3, j3⟩ := RO.at (by decide) (i := 3) (by simp)
 refine wL Try.func10 rfl Try.ntmps10 rfl ?_
 refine qF ?_
 refine qC rfl ?_
 refine qA (qE (v := .int .i64 _) rfl) ?_
 refine qA (qE (v := .slice _ _ _) rfl) ?_
 refine qF ?_
 refine qC rfl ?_
 refine qA (qE (v := .int .i64 _) rfl) ?_
 refine qF ?_
 refine qF ?_
 refine qC rfl ?_
 refine qA (qE (v := .int .i64 _) rfl) ?_
 refine qN ?_
 refine zN [4, 5, 6, 7, 8, 9, 10, 11, 12, 13, 14, 15, 16, 17, 18, 19, 20, 21, 22, 23, 24, 25, 26, 27, 28, 29, 30, 31, 32, 33, 34, 35, 36, 37, 38, 39, 40, 41, 42, 43, 44, 45, 46, 47, 48, 49, 50, 51, 52, 53, 54, 55, 56, 57, 58, 59, 60, 61, 62, 63] 0 (α := Nat) (fun w => [(7, .int .i64 w), (6, .int .i64 (coldN x lo w : Nat))]) (fun w => _) (fun w h_w => w ≤ x.length ∧ ∀ v, v < w → failW x hi lo many life v = false) (fun w => x.length - w) (0) ⟨rfl, intE (by simp [coldN]), trivial⟩ (rfl) (⟨Nat.zero_le _, fun v hv => absurd hv (Nat.not_lt_zero v)⟩) ?_
 rintro w T1 h_w E_w J_w
 refine qP [] rfl ?_
 obtain ⟨K1, K2⟩ := J_w
 refine qF ?_
 refine qF ?_
 refine qC rfl ?_
 refine qA (qB (v := .int .i64 _) rfl) ?_
 refine qA (qB (v := .slice _ _ _) rfl) ?_
 refine qA (wV rfl rfl) ?_
 refine qA (qK (v := .bool _) rfl) ?_
 refine wA rfl (fun hw => ?_) (fun hw => ?_)
 ·skip
  have hwl : w < x.length := ltI hw
  have hcn := coldN_le x lo w
  have hcs := coldN_succ (x := x) (lo := lo) hwl
  have hgd : x.getD w 0 = x[w] := by rw [List.getD_eq_getElem?_getD, List.getElem?_eq_getElem hwl]; rfl
  obtain ⟨g, off, hA, hc⟩ := (R.ext E_w).at (by omega) hwl
  refine qT ?_
  refine qF ?_
  refine qN ?_
  refine qF ?_
  refine qC rfl ?_
  refine qA (qE (v := .bool _) rfl) ?_
  refine xp_cutB [6, 8, 15, 16, 17, 18, 19, 20, 21, 22, 23, 24, 25, 26, 27, 28, 29] 0 (α := Unit) (fun u => [(6, .int .i64 (coldN x lo (w + 1) : Nat)), (8, .bool (b1W x lo many w))]) (fun u L => L) (fun u h_u => True) ?_ ?_
  ·skip
   refine qF ?_
   refine zB [] rfl rfl rfl ?_
   refine qD (i := 0) rfl (by decide +kernel) (qB (v := .slice _ _ _) rfl) ?_
   refine qD (i := 1) rfl (by decide +kernel) (qB (v := .int .i64 _) rfl) ?_
   refine qD (i := 2) rfl (by decide +kernel) (wM rfl hA rfl rfl rfl (by omega) (by omega)) ?_
   refine qL (i := 3) rfl (by decide +kernel) ?_
   refine qV (v := .int .i64 _) rfl rfl ((hc) 0 _ rfl) ?_
   refine qD (i := 4) rfl (by decide +kernel) (qB (v := .slice _ _ _) rfl) ?_
   refine qD (i := 5) rfl (by decide +kernel) (wM rfl i1 rfl rfl rfl (by simp) (by simp)) ?_
   refine qL (i := 6) rfl (by decide +kernel) ?_
   refine qV (v := .int .i64 _) rfl rfl (((j1.ext E_w)) 0 _ rfl) ?_
   refine qD (i := 7) rfl (by decide +kernel) (qK (v := .bool _) rfl) ?_
   refine wW rfl ?_
   refine wA rfl (fun hcold => ?_) (fun hcold => ?_)
   ·skip
    have hc1 : x[w] ≤ lo := of_decide_eq_true hcold
    have hb1 : b1W x lo many w = ((coldN x lo w : Int) + 1 == (many : Int)) := by
     rw [b1W, hgd, decide_eq_true hc1, hcs, if_pos hc1, Bool.true_and, Bool.eq_iff_iff]
     simp
    refine qF ?_
    refine qC rfl ?_
    refine qA (qB (v := .int .i64 _) rfl) ?_
    refine qA (qO rfl (by omega)) ?_
    refine qA (qE (v := .int .i64 _) rfl) ?_
    refine qC rfl ?_
    refine qA (qB (v := .int .i64 _) rfl) ?_
    refine qA (qB (v := .slice _ _ _) rfl) ?_
    refine qA (wM rfl i2 rfl rfl rfl (by simp) (by simp)) ?_
    refine qV (v := .int .i64 _) rfl rfl (((j2.ext E_w)) 0 _ rfl) ?_
    refine qA (qK (v := .bool _) rfl) ?_
    refine qA (qE (v := .bool _) rfl) ?_
    refine ⟨(), ⟨intE (by rw [hcs, if_pos hc1]; omega), (by rw [hb1]; rfl), trivial⟩, rfl, rfl, (Ext.refl _), fun h3 E3 => by first | trivial | omega | (refine ⟨?_, ?_⟩ <;> omega), ?_⟩
    repeat (first | exact zE _ _ | exact qU _ _ _ | refine wB (by decide) ?_ | refine qS rfl ?_ | refine wN rfl ?_)
   ·skip
    have hc1 : ¬ x[w] ≤ lo := of_decide_eq_false hcold
    have hb1 : b1W x lo many w = false := by rw [b1W, hgd, decide_eq_false hc1]; rfl
    refine qT ?_
    refine ⟨(), ⟨intE (by rw [hcs, if_neg hc1]; omega), (by rw [hb1]; rfl), trivial⟩, rfl, rfl, (Ext.refl _), fun h3 E3 => by first | trivial | omega | (refine ⟨?_, ?_⟩ <;> omega), ?_⟩
    repeat (first | exact zE _ _ | exact qU _ _ _ | refine wB (by decide) ?_ | refine qS rfl ?_ | refine wN rfl ?_)
  ·rintro u T2 h_u E_u J_u
   refine qP [] rfl ?_
   have hfw := failW_eq x hi lo many life w
   have hb0 : b0W x hi w = decide (x[w] ≥ hi) := by rw [b0W, hgd]
   rcases Bool.eq_false_or_eq_true (decide (x[w] ≥ hi)) with e0 | e0
   ·skip
    refine qF ?_
    refine zB [] rfl rfl rfl ?_
    refine qD (i := 0) rfl (by decide +kernel) (qB (v := .slice _ _ _) rfl) ?_
    refine qD (i := 1) rfl (by decide +kernel) (qB (v := .int .i64 _) rfl) ?_
    refine qD (i := 2) rfl (by decide +kernel) (wM rfl hA rfl rfl rfl (by omega) (by omega)) ?_
    refine qL (i := 3) rfl (by decide +kernel) ?_
    refine qV (v := .int .i64 _) rfl rfl (((hc.ext E_u)) 0 _ rfl) ?_
    refine qD (i := 4) rfl (by decide +kernel) (qB (v := .slice _ _ _) rfl) ?_
    refine qD (i := 5) rfl (by decide +kernel) (wM rfl i0 rfl rfl rfl (by simp) (by simp)) ?_
    refine qL (i := 6) rfl (by decide +kernel) ?_
    refine qV (v := .int .i64 _) rfl rfl (((j0.ext (zP E_w E_u))) 0 _ rfl) ?_
    refine qD (i := 7) rfl (by decide +kernel) (qK (v := .bool _) rfl) ?_
    refine qD (i := 8) rfl (by decide +kernel) (qB (v := .bool _) rfl) ?_
    refine wD (i := 9) rfl (by decide +kernel) rfl e0 ?_
    refine qD (i := 10) rfl (by decide +kernel) (wX rfl e0 (v := .bool _) rfl) ?_
    refine qD (i := 11) rfl (by decide +kernel) (qB (v := .bool _) rfl) ?_
    refine wD (i := 12) rfl (by decide +kernel) rfl rfl ?_
    refine wD (i := 13) rfl (by decide +kernel) rfl rfl ?_
    refine wD (i := 14) rfl (by decide +kernel) rfl rfl ?_
    refine wD (i := 15) rfl (by decide +kernel) rfl rfl ?_
    refine wD (i := 16) rfl (by decide +kernel) rfl rfl ?_
    refine qD (i := 17) rfl (by decide +kernel) (wX rfl rfl (v := .bool _) rfl) ?_
    refine wW rfl ?_
    refine xp_condT rfl (rfl) ?_
    refine qF ?_
    refine zB [] rfl rfl rfl ?_
    refine qD (i := 0) rfl (by decide +kernel) (qB (v := .int .i64 _) rfl) ?_
    refine qD (i := 1) rfl (by decide +kernel) (qB (v := .slice _ _ _) rfl) ?_
    refine qD (i := 2) rfl (by decide +kernel) (qB (v := .int .i64 _) rfl) ?_
    refine qD (i := 3) rfl (by decide +kernel) (wM rfl hA rfl rfl rfl (by omega) (by omega)) ?_
    refine qL (i := 4) rfl (by decide +kernel) ?_
    refine qV (v := .int .i64 _) rfl rfl (((hc.ext E_u)) 0 _ rfl) ?_
    refine qD (i := 5) rfl (by decide +kernel) (qB (v := .slice _ _ _) rfl) ?_
    refine qD (i := 6) rfl (by decide +kernel) (wM rfl i0 rfl rfl rfl (by simp) (by simp)) ?_
    refine qL (i := 7) rfl (by decide +kernel) ?_
    refine qV (v := .int .i64 _) rfl rfl (((j0.ext (zP E_w E_u))) 0 _ rfl) ?_
    refine qD (i := 8) rfl (by decide +kernel) (qK (v := .bool _) rfl) ?_
    refine qD (i := 9) rfl (by decide +kernel) (qB (v := .bool _) rfl) ?_
    refine qD (i := 10) rfl (by decide +kernel) (qB (v := .int .i64 _) rfl) ?_
    refine qD (i := 11) rfl (by decide +kernel) (qB (v := .slice _ _ _) rfl) ?_
    refine qD (i := 12) rfl (by decide +kernel) (wM rfl i3 rfl rfl rfl (by simp) (by simp)) ?_
    refine qL (i := 13) rfl (by decide +kernel) ?_
    refine qV (v := .int .i64 _) rfl rfl (((j3.ext (zP E_w E_u))) 0 _ rfl) ?_
    refine qD (i := 14) rfl (by decide +kernel) (qK (v := .bool _) rfl) ?_
    refine qD (i := 16) rfl (by decide +kernel) (qE (v := .int .i64 _) rfl) ?_
    refine wI (i := 15) rfl (by decide +kernel) (by decide +kernel) ?_
    refine wG (zc := [_]) (vs := [(0, .bool _), (1, .bool _), (2, .bool _)]) (cs := [_, _, _]) rfl rfl rfl rfl rfl rfl rfl fun b63 hb63 => ?_
    refine qZ [_] rfl ?_
    refine qD (i := 17) rfl (by decide +kernel) (qE (v := .slice _ _ _) rfl) ?_
    refine wW rfl ?_
    refine zH 0 rfl ?_
    intro h9 E9 hb9
    refine wK ?_
    refine qW (vs := [_, _]) Try.results10 ⟨qR rfl rfl, qR rfl rfl, trivial⟩ fun V => ?_
    have hff := fail_first h6 (h := hi) (c := lo) (many := many) (life := life) hm hwl (by rw [hfw, hb0, e0]; rfl) K2
    rw [hb0] at hff
    exact ⟨(zP (zP (zP E_w E_u) E9) (wE V)), flV_of hff ⟨_, _, rfl, (row_blk (enc := booC) (fun _ _ => rfl) hb9).ext (wE V)⟩⟩
   ·skip
    rcases Bool.eq_false_or_eq_true (b1W x lo many w) with e1 | e1
    ·skip
     refine qF ?_
     refine zB [] rfl rfl rfl ?_
     refine qD (i := 0) rfl (by decide +kernel) (qB (v := .slice _ _ _) rfl) ?_
     refine qD (i := 1) rfl (by decide +kernel) (qB (v := .int .i64 _) rfl) ?_
     refine qD (i := 2) rfl (by decide +kernel) (wM rfl hA rfl rfl rfl (by omega) (by omega)) ?_
     refine qL (i := 3) rfl (by decide +kernel) ?_
     refine qV (v := .int .i64 _) rfl rfl (((hc.ext E_u)) 0 _ rfl) ?_
     refine qD (i := 4) rfl (by decide +kernel) (qB (v := .slice _ _ _) rfl) ?_
     refine qD (i := 5) rfl (by decide +kernel) (wM rfl i0 rfl rfl rfl (by simp) (by simp)) ?_
     refine qL (i := 6) rfl (by decide +kernel) ?_
     refine qV (v := .int .i64 _) rfl rfl (((j0.ext (zP E_w E_u))) 0 _ rfl) ?_
     refine qD (i := 7) rfl (by decide +kernel) (qK (v := .bool _) rfl) ?_
     refine qD (i := 8) rfl (by decide +kernel) (qB (v := .bool _) rfl) ?_
     refine qY (i := 9) rfl (by decide +kernel) rfl e0 (qB (v := .bool _) rfl) ?_
     refine qD (i := 10) rfl (by decide +kernel) (wY rfl e0 (v := .bool _) rfl) ?_
     refine qD (i := 11) rfl (by decide +kernel) (qB (v := .bool _) rfl) ?_
     refine wD (i := 12) rfl (by decide +kernel) rfl e1 ?_
     refine wD (i := 13) rfl (by decide +kernel) rfl e1 ?_
     refine wD (i := 14) rfl (by decide +kernel) rfl e1 ?_
     refine wD (i := 15) rfl (by decide +kernel) rfl e1 ?_
     refine wD (i := 16) rfl (by decide +kernel) rfl e1 ?_
     refine qD (i := 17) rfl (by decide +kernel) (wX rfl e1 (v := .bool _) rfl) ?_
     refine wW rfl ?_
     refine xp_condT rfl (rfl) ?_
     refine qF ?_
     refine zB [] rfl rfl rfl ?_
     refine qD (i := 0) rfl (by decide +kernel) (qB (v := .int .i64 _) rfl) ?_
     refine qD (i := 1) rfl (by decide +kernel) (qB (v := .slice _ _ _) rfl) ?_
     refine qD (i := 2) rfl (by decide +kernel) (qB (v := .int .i64 _) rfl) ?_
     refine qD (i := 3) rfl (by decide +kernel) (wM rfl hA rfl rfl rfl (by omega) (by omega)) ?_
     refine qL (i := 4) rfl (by decide +kernel) ?_
     refine qV (v := .int .i64 _) rfl rfl (((hc.ext E_u)) 0 _ rfl) ?_
     refine qD (i := 5) rfl (by decide +kernel) (qB (v := .slice _ _ _) rfl) ?_
     refine qD (i := 6) rfl (by decide +kernel) (wM rfl i0 rfl rfl rfl (by simp) (by simp)) ?_
     refine qL (i := 7) rfl (by decide +kernel) ?_
     refine qV (v := .int .i64 _) rfl rfl (((j0.ext (zP E_w E_u))) 0 _ rfl) ?_
     refine qD (i := 8) rfl (by decide +kernel) (qK (v := .bool _) rfl) ?_
     refine qD (i := 9) rfl (by decide +kernel) (qB (v := .bool _) rfl) ?_
     refine qD (i := 10) rfl (by decide +kernel) (qB (v := .int .i64 _) rfl) ?_
     refine qD (i := 11) rfl (by decide +kernel) (qB (v := .slice _ _ _) rfl) ?_
     refine qD (i := 12) rfl (by decide +kernel) (wM rfl i3 rfl rfl rfl (by simp) (by simp)) ?_
     refine qL (i := 13) rfl (by decide +kernel) ?_
     refine qV (v := .int .i64 _) rfl rfl (((j3.ext (zP E_w E_u))) 0 _ rfl) ?_
     refine qD (i := 14) rfl (by decide +kernel) (qK (v := .bool _) rfl) ?_
     refine qD (i := 16) rfl (by decide +kernel) (qE (v := .int .i64 _) rfl) ?_
     refine wI (i := 15) rfl (by decide +kernel) (by decide +kernel) ?_
     refine wG (zc := [_]) (vs := [(0, .bool _), (1, .bool _), (2, .bool _)]) (cs := [_, _, _]) rfl rfl rfl rfl rfl rfl rfl fun b63_1 hb63_1 => ?_
     refine qZ [_] rfl ?_
     refine qD (i := 17) rfl (by decide +kernel) (qE (v := .slice _ _ _) rfl) ?_
     refine wW rfl ?_
     refine zH 0 rfl ?_
     intro h9 E9 hb9
     refine wK ?_
     refine qW (vs := [_, _]) Try.results10 ⟨qR rfl rfl, qR rfl rfl, trivial⟩ fun V => ?_
     have hff := fail_first h6 (h := hi) (c := lo) (many := many) (life := life) hm hwl (by rw [hfw, hb0, e0, e1]; rfl) K2
     rw [hb0] at hff
     exact ⟨(zP (zP (zP E_w E_u) E9) (wE V)), flV_of hff ⟨_, _, rfl, (row_blk (enc := booC) (fun _ _ => rfl) hb9).ext (wE V)⟩⟩
    ·skip
     refine qF ?_
     refine zB [] rfl rfl rfl ?_
     refine qD (i := 0) rfl (by decide +kernel) (qB (v := .slice _ _ _) rfl) ?_
     refine qD (i := 1) rfl (by decide +kernel) (qB (v := .int .i64 _) rfl) ?_
     refine qD (i := 2) rfl (by decide +kernel) (wM rfl hA rfl rfl rfl (by omega) (by omega)) ?_
     refine qL (i := 3) rfl (by decide +kernel) ?_
     refine qV (v := .int .i64 _) rfl rfl (((hc.ext E_u)) 0 _ rfl) ?_
     refine qD (i := 4) rfl (by decide +kernel) (qB (v := .slice _ _ _) rfl) ?_
     refine qD (i := 5) rfl (by decide +kernel) (wM rfl i0 rfl rfl rfl (by simp) (by simp)) ?_
     refine qL (i := 6) rfl (by decide +kernel) ?_
     refine qV (v := .int .i64 _) rfl rfl (((j0.ext (zP E_w E_u))) 0 _ rfl) ?_
     refine qD (i := 7) rfl (by decide +kernel) (qK (v := .bool _) rfl) ?_
     refine qD (i := 8) rfl (by decide +kernel) (qB (v := .bool _) rfl) ?_
     refine qY (i := 9) rfl (by decide +kernel) rfl e0 (qB (v := .bool _) rfl) ?_
     refine qD (i := 10) rfl (by decide +kernel) (wY rfl e0 (v := .bool _) rfl) ?_
     refine qD (i := 11) rfl (by decide +kernel) (qB (v := .bool _) rfl) ?_
     refine qY (i := 12) rfl (by decide +kernel) rfl e1 (qB (v := .int .i64 _) rfl) ?_
     refine qY (i := 13) rfl (by decide +kernel) rfl e1 (qB (v := .slice _ _ _) rfl) ?_
     refine qY (i := 14) rfl (by decide +kernel) rfl e1 (wM rfl i3 rfl rfl rfl (by simp) (by simp)) ?_
     refine zM (i := 15) rfl (by decide +kernel) rfl e1 ?_
     refine qV (v := .int .i64 _) rfl rfl (((j3.ext (zP E_w E_u))) 0 _ rfl) ?_
     refine qY (i := 16) rfl (by decide +kernel) rfl e1 (qK (v := .bool _) rfl) ?_
     refine qD (i := 17) rfl (by decide +kernel) (wY rfl e1 (v := .bool _) rfl) ?_
     refine wW rfl ?_
     refine wA rfl (fun e2 => ?_) (fun e2 => ?_)
     ·skip
      refine qF ?_
      refine zB [] rfl rfl rfl ?_
      refine qD (i := 0) rfl (by decide +kernel) (qB (v := .int .i64 _) rfl) ?_
      refine qD (i := 1) rfl (by decide +kernel) (qB (v := .slice _ _ _) rfl) ?_
      refine qD (i := 2) rfl (by decide +kernel) (qB (v := .int .i64 _) rfl) ?_
      refine qD (i := 3) rfl (by decide +kernel) (wM rfl hA rfl rfl rfl (by omega) (by omega)) ?_
      refine qL (i := 4) rfl (by decide +kernel) ?_
      refine qV (v := .int .i64 _) rfl rfl (((hc.ext E_u)) 0 _ rfl) ?_
      refine qD (i := 5) rfl (by decide +kernel) (qB (v := .slice _ _ _) rfl) ?_
      refine qD (i := 6) rfl (by decide +kernel) (wM rfl i0 rfl rfl rfl (by simp) (by simp)) ?_
      refine qL (i := 7) rfl (by decide +kernel) ?_
      refine qV (v := .int .i64 _) rfl rfl (((j0.ext (zP E_w E_u))) 0 _ rfl) ?_
      refine qD (i := 8) rfl (by decide +kernel) (qK (v := .bool _) rfl) ?_
      refine qD (i := 9) rfl (by decide +kernel) (qB (v := .bool _) rfl) ?_
      refine qD (i := 10) rfl (by decide +kernel) (qB (v := .int .i64 _) rfl) ?_
      refine qD (i := 11) rfl (by decide +kernel) (qB (v := .slice _ _ _) rfl) ?_
      refine qD (i := 12) rfl (by decide +kernel) (wM rfl i3 rfl rfl rfl (by simp) (by simp)) ?_
      refine qL (i := 13) rfl (by decide +kernel) ?_
      refine qV (v := .int .i64 _) rfl rfl (((j3.ext (zP E_w E_u))) 0 _ rfl) ?_
      refine qD (i := 14) rfl (by decide +kernel) (qK (v := .bool _) rfl) ?_
      refine qD (i := 16) rfl (by decide +kernel) (qE (v := .int .i64 _) rfl) ?_
      refine wI (i := 15) rfl (by decide +kernel) (by decide +kernel) ?_
      refine wG (zc := [_]) (vs := [(0, .bool _), (1, .bool _), (2, .bool _)]) (cs := [_, _, _]) rfl rfl rfl rfl rfl rfl rfl fun b63_2 hb63_2 => ?_
      refine qZ [_] rfl ?_
      refine qD (i := 17) rfl (by decide +kernel) (qE (v := .slice _ _ _) rfl) ?_
      refine wW rfl ?_
      refine zH 0 rfl ?_
      intro h9 E9 hb9
      refine wK ?_
      refine qW (vs := [_, _]) Try.results10 ⟨qR rfl rfl, qR rfl rfl, trivial⟩ fun V => ?_
      have hff := fail_first h6 (h := hi) (c := lo) (many := many) (life := life) hm hwl (by rw [hfw, hb0, e0, e1]; exact e2) K2
      rw [hb0] at hff
      exact ⟨(zP (zP (zP E_w E_u) E9) (wE V)), flV_of hff ⟨_, _, rfl, (row_blk (enc := booC) (fun _ _ => rfl) hb9).ext (wE V)⟩⟩
     ·skip
      refine qT ?_
      refine qC rfl ?_
      refine qA (qB (v := .int .i64 _) rfl) ?_
      refine qA (qO rfl (by omega)) ?_
      refine qA (qE (v := .int .i64 _) rfl) ?_
      have K3 : ∀ v, v < w + 1 → failW x hi lo many life v = false := fun v hv => by
       rcases Nat.lt_succ_iff_lt_or_eq.1 hv with h1 | h1
       ·exact K2 v h1
       ·rw [h1, hfw, hb0, e0, e1]; exact e2
      refine ⟨w + 1, ⟨rfl, rfl, trivial⟩, rfl, rfl, (zP E_w E_u), fun h3 E3 => ⟨hwl, K3⟩, by first | omega | (dsimp only; omega), ?_⟩
      repeat (first | exact qU _ _ _ | refine wB (by decide) ?_ | refine qS rfl ?_ | refine wN rfl ?_)
 ·skip
  have hwe : w = x.length := by have := geI hw; omega
  subst hwe
  refine wU ?_
  refine qF ?_
  refine qC rfl ?_
  refine qA (qB (v := .slice _ _ _) rfl) ?_
  refine qA (wV rfl rfl) ?_
  refine wG (zc := [_]) (vs := [(0, .bool _), (1, .bool _), (2, .bool _)]) (cs := [_, _, _]) rfl rfl rfl rfl rfl rfl rfl fun b66 hb66 => ?_
  refine qH [_] rfl ?_
  refine qA (qE (v := .int .i64 _) rfl) ?_
  refine qA (qE (v := .slice _ _ _) rfl) ?_
  refine zH 0 rfl ?_
  intro h9 E9 hb9
  refine wK ?_
  refine qW (vs := [_, _]) Try.results10 ⟨qR rfl rfl, qR rfl rfl, trivial⟩ fun V => ?_
  exact ⟨(zP (zP E_w E9) (wE V)), flV_of (fail_none h6 hm K2) ⟨_, _, rfl, (row_blk (enc := booC) (fun _ _ => rfl) hb9).ext (wE V)⟩⟩
end
end Go.Proofs.Ytgjcepdhclmglaa
namespace Go.Proofs.Ytgjcepdhclmglaa
open Go Go.HL Go.Proofs Go.Wx
variable [Lvl]
set_option maxRecDepth 100000
end Go.Proofs.Ytgjcepdhclmglaa
namespace Go.Proofs.Ytgjcepdhclmglaa
open Go Go.HL Go.Proofs Go.Wx
variable [Lvl]
set_option maxRecDepth 100000
end Go.Proofs.Ytgjcepdhclmglaa
namespace Go.Proofs.Ytgjcepdhclmglaa
open Go Go.HL Go.Proofs Go.Wx
variable [Lvl]
set_option maxRecDepth 100000
end Go.Proofs.Ytgjcepdhclmglaa
namespace Go.Proofs.Ytgjcepdhclmglaa
open Go Go.HL Go.Proofs Go.Wx
variable [Lvl]
set_option maxRecDepth 100000
def wthM (rs : List Rg) : Nat → List Int → List (List Int)
 | 0, x => [x]
 | m + 1, x => (rangeI (rs.getD x.length default).mn ((rs.getD x.length default).mx + 1)).flatMap fun t => wthM rs m (x ++ [t])
end Go.Proofs.Ytgjcepdhclmglaa
namespace Go.Proofs.Ytgjcepdhclmglaa
open Go Go.HL Go.Proofs Go.Wx
variable [Lvl]
set_option maxRecDepth 100000
theorem LLv.app {h : AH} {ls ls' : List (List Int)} {vs vs' : List Value} (x : LLv h ls vs) (y : LLv h ls' vs') : LLv h (ls ++ ls') (vs ++ vs') := by
 refine ⟨by simp [x.1, y.1], fun i l v a b => ?_⟩
 by_cases hi : i < ls.length
 ·rw [List.getElem?_append_left hi] at a
  rw [List.getElem?_append_left (by rw [x.1]; exact hi)] at b
  exact x.2 i l v a b
 ·rw [List.getElem?_append_right (by omega)] at a
  rw [List.getElem?_append_right (by rw [x.1]; omega), x.1] at b
  exact y.2 _ l v a b
end Go.Proofs.Ytgjcepdhclmglaa
namespace Go.Proofs.Ytgjcepdhclmglaa
open Go Go.HL Go.Proofs Go.Wx
variable [Lvl]
theorem skyOf_snoc {x : List Int} {t : Int} (h : x.length < 6) : skyOf (x ++ [t]) = (skyOf x).set x.length t := by
 apply Sky.ext_at
 intro i hi
 rw [skyOf_at _ _ hi, Sky.at_set _ _ h hi, skyOf_at _ _ hi, List.getD_eq_getElem?_getD, List.getD_eq_getElem?_getD]
 by_cases h1 : i < x.length
 ·rw [List.getElem?_append_left h1, if_neg (by omega)]
 ·rw [List.getElem?_append_right (by omega)]
  by_cases h2 : i = x.length
  ·rw [if_pos h2, h2, Nat.sub_self]; rfl
  ·rw [if_neg h2, List.getElem?_eq_none (by simp; omega), List.getElem?_eq_none (by omega)]
theorem wth_skies {rs : List Rg} (h6 : rs.length ≤ 6) : ∀ (m : Nat) (x : List Int), x.length + m = rs.length → (wthM rs m x).map skyOf = skiesM (rs.drop x.length) x.length (skyOf x)
 | 0, x, h => by rw [List.drop_eq_nil_of_le (by omega)]; rfl
 | m + 1, x, h => by
  have hx : x.length < rs.length := by omega
  have h1 : rs.getD x.length default = rs[x.length] := by rw [List.getD_eq_getElem?_getD, List.getElem?_eq_getElem hx]; rfl
  rw [wthM, h1, List.drop_eq_getElem_cons hx, skiesM, List.map_flatMap]
  refine congrArg (fun f => List.flatMap f _) ?_
  funext t
  rw [wth_skies h6 m (x ++ [t]) (by rw [List.length_append, List.length_singleton]; omega), skyOf_snoc (by omega), List.length_append, List.length_singleton]
theorem wth_len {rs : List Rg} : ∀ (m : Nat) (x y : List Int), y ∈ wthM rs m x → y.length = x.length + m
 | 0, x, y, h => by simp [wthM] at h; rw [h]; rfl
 | m + 1, x, y, h => by
  rw [wthM, List.mem_flatMap] at h
  obtain ⟨t, _, h⟩ := h
  have := wth_len m _ _ h
  rw [List.length_append, List.length_singleton] at this
  omega
def allW (s : Season) (n : Int) : List (List Int) := wthM (weatherM s n) (weatherM s n).length []
def rSk (s : Season) (n : Int) : List (List Int) := (allW s n).filter fun x => okM s n (skyOf x)
def recF (s : Season) (n : Int) (x : List Int) : List (List Fl) := (List.range s.joints.length).map fun i => surv s n (skyOf x) i
theorem allW_map {s : Season} {n : Int} (h6 : (weatherM s n).length ≤ 6) : (allW s n).map skyOf = allSkies s n := by
 unfold allW allSkies
 rw [wth_skies h6 _ _ (by simp)]
 rfl
theorem rSk_map {s : Season} {n : Int} (h6 : (weatherM s n).length ≤ 6) : (rSk s n).map skyOf = okK s n (allSkies s n).length := by
 unfold rSk okK
 rw [List.take_length, ← allW_map h6, List.filter_map]
 rfl
theorem rSk_fls {s : Season} {n : Int} (h6 : (weatherM s n).length ≤ 6) (i : Nat) : flsM s n i = (rSk s n).flatMap fun x => surv s n (skyOf x) i := by
 unfold flsM flsK
 rw [← rSk_map h6, List.flatMap_map]
theorem rSk_ok {s : Season} {n : Int} {x : List Int} (h : x ∈ rSk s n) : okM s n (skyOf x) = true := (List.mem_filter.1 h).2
theorem mem_rSk {s : Season} {n : Int} (h6 : (weatherM s n).length ≤ 6) {y : Sky} : y ∈ skM s n ↔ ∃ x ∈ rSk s n, skyOf x = y := by
 rw [mem_skM, ← mem_okAll, ← rSk_map h6, List.mem_map]
theorem rMay {s : Season} (h1 : (weatherM s 1).length ≤ 6) (h2 : (weatherM s 2).length ≤ 6) : mayM s = (decide (0 < (rSk s 1).length) && decide (0 < (rSk s 2).length)) := by
 have key : ∀ n, (weatherM s n).length ≤ 6 → ((∃ y, y ∈ skM s n) ↔ 0 < (rSk s n).length) := by
  intro n h
  constructor
  ·rintro ⟨y, hy⟩
   obtain ⟨x, hx, _⟩ := (mem_rSk h).1 hy
   exact List.length_pos_of_mem hx
  ·intro hp
   obtain ⟨x, hx⟩ := List.exists_mem_of_length_pos hp
   exact ⟨_, (mem_rSk h).2 ⟨x, hx, rfl⟩⟩
 rw [Bool.eq_iff_iff, mayM_iff, Bool.and_eq_true, decide_eq_true_eq, decide_eq_true_eq, key 1 h1, key 2 h2]
theorem surv_other {s : Season} {n : Int} {x : Sky} {k : Nat} (h : kindAt s k ≠ n) : surv s n x k = [] := by
 unfold surv
 cases hj : s.joints[k]? with
 | none => rfl
 | some j =>
  unfold kindAt at h
  rw [hj] at h
  exact if_neg h
def RLv {α β : Type} (R : AH → α → β → Prop) (h : AH) (ls : List α) (vs : List β) : Prop := vs.length = ls.length ∧ ∀ (i : Nat) l v, ls[i]? = some l → vs[i]? = some v → R h l v
section
variable {α β : Type} {R : AH → α → β → Prop}
theorem RLv.nil {h : AH} : RLv R h [] [] := ⟨rfl, fun i l v a _ => by simp at a⟩
theorem RLv.ext (he : ∀ h h' l v, Ext h h' → R h l v → R h' l v) {h h' : AH} {ls : List α} {vs : List β} (x : RLv R h ls vs) (E : Ext h h') : RLv R h' ls vs := ⟨x.1, fun i l v a b => he _ _ _ _ E (x.2 i l v a b)⟩
theorem RLv.snoc {h : AH} {ls : List α} {vs : List β} (x : RLv R h ls vs) {l : α} {v : β} (s : R h l v) : RLv R h (ls ++ [l]) (vs ++ [v]) := by
 refine ⟨by simp [x.1], fun i l' v' a b => ?_⟩
 by_cases hi : i < ls.length
 ·rw [List.getElem?_append_left hi] at a
  rw [List.getElem?_append_left (by rw [x.1]; exact hi)] at b
  exact x.2 i l' v' a b
 ·have h1 := (List.getElem?_eq_some_iff.1 a).1
  have hie : i = ls.length := by simp at h1; omega
  subst hie
  rw [List.getElem?_append_right (Nat.le_refl _), Nat.sub_self] at a
  rw [List.getElem?_append_right (by rw [x.1]; exact Nat.le_refl _), x.1, Nat.sub_self] at b
  simp at a b
  subst a b
  exact s
theorem RLv.at {h : AH} {ls : List α} {vs : List β} (x : RLv R h ls vs) {i : Nat} (hi : i < ls.length) : ∃ hv : i < vs.length, R h ls[i] vs[i] :=
 ⟨by rw [x.1]; exact hi, x.2 i _ _ (List.getElem?_eq_getElem hi) (List.getElem?_eq_getElem (by rw [x.1]; exact hi))⟩
end
theorem flx {h h' : AH} {ls : List (List Fl)} {vs : List Value} (x : RLv (fun h l v => SlR h 4 flR l v) h ls vs) (E : Ext h h') : RLv (fun h l v => SlR h 4 flR l v) h' ls vs := RLv.ext (R := fun h l v => SlR h 4 flR l v) (fun _ _ _ _ E s => SlR.ext s E) x E
def FLR (h : AH) (ls : List (List Fl)) (v : Value) : Prop := ∃ A c vs, v = .slice A ls.length c ∧ Row h 1 fnC A vs ∧ RLv (fun h l v => SlR h 4 flR l v) h ls vs
theorem FLR.ext {h h' : AH} {ls : List (List Fl)} {v : Value} (x : FLR h ls v) (E : Ext h h') : FLR h' ls v := by
 obtain ⟨A, c, vs, e, r, l⟩ := x
 exact ⟨A, c, vs, e, r.ext E, flx l E⟩
def SkP (s : Season) (n : Int) (h : AH) (x : List Int) (p : Value × Value) : Prop := SlR h 1 intC x p.1 ∧ FLR h (recF s n x) p.2
theorem SkP.ext {s : Season} {n : Int} {h h' : AH} {x : List Int} {p : Value × Value} (k : SkP s n h x p) (E : Ext h h') : SkP s n h' x p := ⟨k.1.ext E, k.2.ext E⟩
theorem skx {s : Season} {n : Int} {h h' : AH} {ls : List (List Int)} {ps : List (Value × Value)} (x : RLv (SkP s n) h ls ps) (E : Ext h h') : RLv (SkP s n) h' ls ps := RLv.ext (R := SkP s n) (fun _ _ _ _ E s => SkP.ext s E) x E
def prC (p : Value × Value) : List Value := [p.1, p.2]
def SKR (s : Season) (n : Int) (h : AH) (l : List (List Int)) (v : Value) : Prop := ∃ A c ps, v = .slice A l.length c ∧ Row h 2 prC A ps ∧ RLv (SkP s n) h l ps
theorem SKR.ext {s : Season} {n : Int} {h h' : AH} {l : List (List Int)} {v : Value} (x : SKR s n h l v) (E : Ext h h') : SKR s n h' l v := by
 obtain ⟨A, c, ps, e, r, k⟩ := x
 exact ⟨A, c, ps, e, r.ext E, skx k E⟩
end Go.Proofs.Ytgjcepdhclmglaa
namespace Go.Proofs.Ytgjcepdhclmglaa
open Go Go.HL Go.Proofs Go.Wx
variable [Lvl]
theorem mask_any (l : List Fl) (w : Nat) : (maskM l).testBit w = l.any fun y => decide ((y.week : Int) = (w : Int)) := by
 rw [Bool.eq_iff_iff, maskM_bit, List.any_eq_true]
 constructor
 ·rintro ⟨y, hy, e⟩; exact ⟨y, hy, decide_eq_true (by omega)⟩
 ·rintro ⟨y, hy, e⟩; exact ⟨y, hy, by have := of_decide_eq_true e; omega⟩
theorem fails_any (s : Season) (i w : Nat) : (failsM s i).testBit w = (flsM s (kindAt s i) i).any fun y => decide ((y.week : Int) = (w : Int)) := mask_any _ _
theorem listN_stop {m k : Nat} (h : ∀ i, k ≤ i → m.testBit i = false) : ∀ j, listN m (k + j) = listN m k
 | 0 => rfl
 | j + 1 => by rw [← Nat.add_assoc, listN_succ, h (k + j) (by omega), if_neg (by decide), listN_stop h j]
theorem fails_list {s : Season} (h6 : s.heats.length ≤ 6) (i : Nat) : listN (failsM s i) (s.heats.length + 1) = listM (failsM s i) := by
 have := listN_stop (m := failsM s i) (k := s.heats.length + 1) (fun w hw => by
  rw [Bool.eq_false_iff]
  intro hb
  have := failsM_week hb
  omega) (7 - (s.heats.length + 1))
 rw [← this]
 congr 1
 omega
theorem upto_any (l : List Fl) (w : Nat) : decide (uptoM (maskM l) w ≠ 0) = l.any fun y => decide ((y.week : Int) ≤ (w : Int)) := by
 rw [Bool.eq_iff_iff, decide_eq_true_eq, List.any_eq_true]
 constructor
 ·intro h
  have : ∃ i, (uptoM (maskM l) w).testBit i = true := by
   refine Classical.byContradiction fun hn => h (Nat.eq_of_testBit_eq fun i => ?_)
   rw [Nat.zero_testBit, Bool.eq_false_iff]
   exact fun hb => hn ⟨i, hb⟩
  obtain ⟨i, hb⟩ := this
  rw [uptoM_bit, Bool.and_eq_true, maskM_bit, decide_eq_true_eq] at hb
  obtain ⟨⟨y, hy, e⟩, hi⟩ := hb
  exact ⟨y, hy, decide_eq_true (by omega)⟩
 ·rintro ⟨y, hy, e⟩ h0
  have hle := of_decide_eq_true e
  have : (uptoM (maskM l) w).testBit y.week = true := by
   rw [uptoM_bit, (maskM_bit y.week l).2 ⟨y, hy, rfl⟩, Bool.true_and, decide_eq_true (by omega)]
  rw [h0, Nat.zero_testBit] at this
  cases this
theorem past_any (l : List Fl) (w : Nat) : decide (maskM l ≠ uptoM (maskM l) w) = l.any fun y => decide ((y.week : Int) > (w : Int)) := by
 rw [Bool.eq_iff_iff, decide_eq_true_eq, List.any_eq_true]
 constructor
 ·intro h
  refine Classical.byContradiction fun hn => h (Nat.eq_of_testBit_eq fun i => ?_)
  rw [uptoM_bit]
  cases hb : (maskM l).testBit i with
  | false => rfl
  | true =>
   obtain ⟨y, hy, e⟩ := (maskM_bit i l).1 hb
   have : ¬ (y.week : Int) > (w : Int) := fun hg => hn ⟨y, hy, decide_eq_true hg⟩
   rw [decide_eq_true (by omega)]; rfl
 ·rintro ⟨y, hy, e⟩ h0
  have hg := of_decide_eq_true e
  have h1 := (maskM_bit y.week l).2 ⟨y, hy, rfl⟩
  rw [h0, uptoM_bit, decide_eq_false (by omega), Bool.and_false] at h1
  cases h1
theorem failed_any (s : Season) (i w : Nat) : failedM s i w = verdictM ((flsM s (kindAt s i) i).any fun y => decide ((y.week : Int) ≤ (w : Int))) ((flsM s (kindAt s i) i).any fun y => decide ((y.week : Int) > (w : Int))) := by
 unfold failedM failsM
 rw [upto_any, past_any]
end Go.Proofs.Ytgjcepdhclmglaa
namespace Go.Proofs.Ytgjcepdhclmglaa
open Go Go.HL Go.Proofs Go.Wx
variable [Lvl]
theorem fmin_iff {α : Type} (g : α → Int) : ∀ (l : List α) (m z : Int), z ≤ l.foldl (fun m x => min m (g x)) m ↔ z ≤ m ∧ ∀ x ∈ l, z ≤ g x
 | [], m, z => by simp
 | x :: l, m, z => by
  rw [List.foldl_cons, fmin_iff g l]
  simp only [List.mem_cons, forall_eq_or_imp]
  constructor
  ·rintro ⟨h1, h2⟩; exact ⟨by omega, by omega, h2⟩
  ·rintro ⟨h1, h2, h3⟩; exact ⟨by omega, h3⟩
theorem fmax_iff {α : Type} (g : α → Int) : ∀ (l : List α) (m z : Int), l.foldl (fun m x => max m (g x)) m ≤ z ↔ m ≤ z ∧ ∀ x ∈ l, g x ≤ z
 | [], m, z => by simp
 | x :: l, m, z => by
  rw [List.foldl_cons, fmax_iff g l]
  simp only [List.mem_cons, forall_eq_or_imp]
  constructor
  ·rintro ⟨h1, h2⟩; exact ⟨by omega, by omega, h2⟩
  ·rintro ⟨h1, h2, h3⟩; exact ⟨by omega, h3⟩
theorem lo_iff {l : List Sky} (h : l ≠ []) (w : Nat) (z : Int) : z ≤ loK l w l.length ↔ ∀ x ∈ l, z ≤ x.at w := by
 cases l with
 | nil => exact absurd rfl h
 | cons a l =>
  unfold loK
  rw [List.take_length, fmin_iff (fun x : Sky => x.at w)]
  exact ⟨fun h => h.2, fun h => ⟨h a (List.mem_cons_self ..), h⟩⟩
theorem hi_iff {l : List Sky} (h : l ≠ []) (w : Nat) (z : Int) : hiK l w l.length ≤ z ↔ ∀ x ∈ l, x.at w ≤ z := by
 cases l with
 | nil => exact absurd rfl h
 | cons a l =>
  unfold hiK
  rw [List.take_length, fmax_iff (fun x : Sky => x.at w)]
  exact ⟨fun h => h.2, fun h => ⟨h a (List.mem_cons_self ..), h⟩⟩
theorem week_same {l l' : List Sky} (h : ∀ x, x ∈ l ↔ x ∈ l') (hl : l ≠ []) (w : Nat) : weekR l w = weekR l' w := by
 have hl' : l' ≠ [] := by
  obtain ⟨x, hx⟩ := List.exists_mem_of_ne_nil l hl
  exact List.ne_nil_of_mem ((h x).1 hx)
 unfold weekR
 congr 1
 ·apply Int.le_antisymm
  ·exact (lo_iff hl' w _).2 fun x hx => (lo_iff hl w _).1 (Int.le_refl _) x ((h x).2 hx)
  ·exact (lo_iff hl w _).2 fun x hx => (lo_iff hl' w _).1 (Int.le_refl _) x ((h x).1 hx)
 ·apply Int.le_antisymm
  ·exact (hi_iff hl w _).2 fun x hx => (hi_iff hl' w _).1 (Int.le_refl _) x ((h x).1 hx)
  ·exact (hi_iff hl' w _).2 fun x hx => (hi_iff hl w _).1 (Int.le_refl _) x ((h x).2 hx)
def fLo (l : List Fl) (k : Nat) : Int := (l.take k).foldl (fun m y => min m (y.week : Int)) ((l.headD default).week : Int)
def fHi (l : List Fl) (k : Nat) : Int := (l.take k).foldl (fun m y => max m (y.week : Int)) ((l.headD default).week : Int)
def fR (l : List Fl) : Rg := ⟨fLo l l.length, fHi l l.length⟩
theorem fLo_iff {l : List Fl} (h : l ≠ []) (z : Int) : z ≤ (fR l).mn ↔ ∀ y ∈ l, z ≤ (y.week : Int) := by
 cases l with
 | nil => exact absurd rfl h
 | cons a l =>
  unfold fR fLo
  dsimp only
  rw [List.take_length, fmin_iff (fun y : Fl => (y.week : Int))]
  exact ⟨fun h => h.2, fun h => ⟨h a (List.mem_cons_self ..), h⟩⟩
theorem fHi_iff {l : List Fl} (h : l ≠ []) (z : Int) : (fR l).mx ≤ z ↔ ∀ y ∈ l, (y.week : Int) ≤ z := by
 cases l with
 | nil => exact absurd rfl h
 | cons a l =>
  unfold fR fHi
  dsimp only
  rw [List.take_length, fmax_iff (fun y : Fl => (y.week : Int))]
  exact ⟨fun h => h.2, fun h => ⟨h a (List.mem_cons_self ..), h⟩⟩
section
variable {l : List Fl} (h0 : l ≠ []) (h6 : ∀ y ∈ l, y.week ≤ 6)
include h0 h6
theorem mask_list : listM (maskM l) ≠ [] := listM_ne (fun e => h0 ((maskM_zero l).1 e)) (maskM_lt h6)
theorem mask_mem {z : Int} : z ∈ listM (maskM l) ↔ ∃ y ∈ l, z = (y.week : Int) := by
 rw [mem_listN]
 constructor
 ·rintro ⟨i, rfl, _, hb⟩
  obtain ⟨y, hy, e⟩ := (maskM_bit i l).1 hb
  exact ⟨y, hy, by omega⟩
 ·rintro ⟨y, hy, rfl⟩
  have := h6 y hy
  exact ⟨y.week, rfl, by omega, (maskM_bit y.week l).2 ⟨y, hy, rfl⟩⟩
theorem mask_head : (listM (maskM l)).headD 0 = (fR l).mn := by
 have hne := mask_list h0 h6
 have hm : (listM (maskM l)).headD 0 ∈ listM (maskM l) := by cases e : listM (maskM l) with | nil => exact absurd e hne | cons a l => exact List.mem_cons_self ..
 apply Int.le_antisymm
 ·exact (fLo_iff h0 _).2 fun y hy => head_le_mem ((mask_mem h0 h6).2 ⟨y, hy, rfl⟩)
 ·obtain ⟨y, hy, e⟩ := (mask_mem h0 h6).1 hm
  rw [e]
  exact (fLo_iff h0 _).1 (Int.le_refl _) y hy
theorem mask_last : (listM (maskM l)).getLastD 0 = (fR l).mx := by
 have hne := mask_list h0 h6
 have hm : (listM (maskM l)).getLastD 0 ∈ listM (maskM l) := by rw [List.getLastD_eq_getLast?, List.getLast?_eq_some_getLast hne]; exact List.getLast_mem hne
 apply Int.le_antisymm
 ·obtain ⟨y, hy, e⟩ := (mask_mem h0 h6).1 hm
  rw [e]
  exact (fHi_iff h0 _).1 (Int.le_refl _) y hy
 ·exact (fHi_iff h0 _).2 fun y hy => mem_le_last ((mask_mem h0 h6).2 ⟨y, hy, rfl⟩)
theorem mn_mem : (fR l).mn ∈ listM (maskM l) := by
 rw [← mask_head h0 h6]
 cases e : listM (maskM l) with | nil => exact absurd e (mask_list h0 h6) | cons a l => exact List.mem_cons_self ..
theorem mx_mem : (fR l).mx ∈ listM (maskM l) := by
 rw [← mask_last h0 h6, List.getLastD_eq_getLast?, List.getLast?_eq_some_getLast (mask_list h0 h6)]
 exact List.getLast_mem _
theorem mn_le {z : Int} (h : z ∈ listM (maskM l)) : (fR l).mn ≤ z := by rw [← mask_head h0 h6]; exact head_le_mem h
theorem le_mx {z : Int} (h : z ∈ listM (maskM l)) : z ≤ (fR l).mx := by rw [← mask_last h0 h6]; exact mem_le_last h
end
def jlL (s : Season) (x y : List Int) (i : Nat) : List Fl := if kindAt s i = 2 then surv s 2 (skyOf y) i else surv s 1 (skyOf x) i
def pF (s : Season) (x y : List Int) : Fate := joinF (fateOf s 1 (skyOf x)) (fateOf s 2 (skyOf y))
theorem allFates_eq {s : Season} (h1 : (weatherM s 1).length ≤ 6) (h2 : (weatherM s 2).length ≤ 6) : allFates s = (rSk s 1).flatMap fun x => (rSk s 2).map (pF s x) := by
 unfold allFates fatesM fatesK
 rw [← rSk_map h1, ← rSk_map h2, List.flatMap_map, List.flatMap_map]
 simp only [List.map_map]
 rfl
section
variable {s : Season} (SV : SeasonV s) {x y : List Int} (hx : x ∈ rSk s 1) (hy : y ∈ rSk s 2)
include SV
theorem kind12 {i : Nat} (hi : i < s.joints.length) : kindAt s i = 1 ∨ kindAt s i = 2 := by
 rw [kindAt_some (List.getElem?_eq_getElem hi)]
 exact SV.kinds _ (List.getElem_mem hi)
include hx hy
theorem jl_ne {i : Nat} (hi : i < s.joints.length) : jlL s x y i ≠ [] := by
 have key : ∀ (n : Int) (X : Sky), okM s n X = true → kindAt s i = n → surv s n X i ≠ [] := by
  intro n X ho hk
  have h2 := fateM_ne ho hi hk
  exact fun e => h2 ((maskM_zero _).2 e)
 unfold jlL
 rcases kind12 SV hi with h | h
 ·rw [if_neg (by rw [h]; decide)]; exact key 1 _ (rSk_ok hx) h
 ·rw [if_pos h]; exact key 2 _ (rSk_ok hy) h
omit hx hy in
theorem jl_week {i : Nat} {z : Fl} (h : z ∈ jlL s x y i) : z.week ≤ s.heats.length := by
 unfold jlL at h
 split at h
 ·exact surv_week h
 ·exact surv_week h
omit hx hy in
theorem pF_at {i : Nat} (hi : i < s.joints.length) : (pF s x y).at i = maskM (jlL s x y i) := by
 have hj3 := SV.b.j3
 unfold pF
 rw [joinF_at, Fate.of_at _ _ _ _ (by omega), Fate.of_at _ _ _ _ (by omega)]
 unfold fateM jlL
 rcases kind12 SV hi with h | h
 ·rw [if_neg (by rw [h]; decide), surv_other (n := 2) (by rw [h]; decide)]
  exact Nat.or_zero _
 ·rw [if_pos h, surv_other (n := 1) (by rw [h]; decide)]
  exact Nat.zero_or _
theorem jl_bd {i : Nat} (hi : i < s.joints.length) : 0 ≤ (fR (jlL s x y i)).mn ∧ (fR (jlL s x y i)).mn ≤ (fR (jlL s x y i)).mx ∧ (fR (jlL s x y i)).mx ≤ s.heats.length := by
 have hne := jl_ne SV hx hy hi
 obtain ⟨z, hz⟩ := List.exists_mem_of_ne_nil _ hne
 refine ⟨(fLo_iff hne _).2 fun z _ => by omega, ?_, (fHi_iff hne _).2 fun z hz => by have := jl_week SV hz; omega⟩
 have a := (fLo_iff hne _).1 (Int.le_refl _) z hz
 have b := (fHi_iff hne _).1 (Int.le_refl _) z hz
 omega
def fstP (s : Season) (x y : List Int) (j k : Nat) : Bool := decide ((fR (jlL s x y j)).mn < (s.heats.length : Int)) && (List.range k).all fun o => decide (o = j) || decide ((fR (jlL s x y o)).mx ≥ (fR (jlL s x y j)).mn)
def nonP (s : Season) (x y : List Int) (j k : Nat) : Bool := decide ((fR (jlL s x y j)).mx = (s.heats.length : Int)) || (List.range k).any fun o => !decide (o = j) && decide ((fR (jlL s x y o)).mn < (fR (jlL s x y j)).mx)
omit SV hx hy in
theorem le_lat (f : Fate) (j : Nat) (z : Int) : ∀ n, z ≤ latP s f j n ↔ z ≤ s.heats.length ∧ ∀ i, i < n → i ≠ j → z ≤ (listM (f.at i)).getLastD 0
 | 0 => by simp [latP]
 | n + 1 => by
  unfold latP
  have ih := le_lat f j z n
  split
  ·rename_i h
   rw [ih]
   exact ⟨fun ⟨a, b⟩ => ⟨a, fun i hi hne => b i (by omega) hne⟩, fun ⟨a, b⟩ => ⟨a, fun i hi hne => b i (by omega) hne⟩⟩
  ·rename_i h
   constructor
   ·intro hz
    have h1 := ih.1 (by omega)
    refine ⟨h1.1, fun i hi hne => ?_⟩
    by_cases e : i = n
    ·rw [e]; omega
    ·exact h1.2 i (by omega) hne
   ·rintro ⟨a, b⟩
    have h1 := ih.2 ⟨a, fun i hi hne => b i (by omega) hne⟩
    have h2 := b n (by omega) h
    omega
omit SV hx hy in
theorem le_soon (f : Fate) (j : Nat) (z : Int) : ∀ n, z ≤ soonP s f j n ↔ z ≤ s.heats.length ∧ ∀ i, i < n → i ≠ j → z ≤ (listM (f.at i)).headD 0
 | 0 => by simp [soonP]
 | n + 1 => by
  unfold soonP
  have ih := le_soon f j z n
  split
  ·rename_i h
   rw [ih]
   exact ⟨fun ⟨a, b⟩ => ⟨a, fun i hi hne => b i (by omega) hne⟩, fun ⟨a, b⟩ => ⟨a, fun i hi hne => b i (by omega) hne⟩⟩
  ·rename_i h
   constructor
   ·intro hz
    have h1 := ih.1 (by omega)
    refine ⟨h1.1, fun i hi hne => ?_⟩
    by_cases e : i = n
    ·rw [e]; omega
    ·exact h1.2 i (by omega) hne
   ·rintro ⟨a, b⟩
    have h1 := ih.2 ⟨a, fun i hi hne => b i (by omega) hne⟩
    have h2 := b n (by omega) h
    omega
theorem isF_eq {j : Nat} (hj : j < s.joints.length) : isF s j (pF s x y) = fstP s x y j s.joints.length := by
 have hw6 := SV.b.w6
 have ne : ∀ i, i < s.joints.length → jlL s x y i ≠ [] := fun i hi => jl_ne SV hx hy hi
 have w6 : ∀ i, ∀ z ∈ jlL s x y i, z.week ≤ 6 := fun i z hz => by have := jl_week SV hz; omega
 rw [Bool.eq_iff_iff]
 unfold isF fstP isW
 rw [List.any_eq_true, Bool.and_eq_true, List.all_eq_true, decide_eq_true_eq, pF_at SV hj]
 constructor
 ·rintro ⟨w, hw, h⟩
  rw [Bool.and_eq_true, decide_eq_true_eq, decide_eq_true_eq, le_lat] at h
  have h1 := mn_le (ne j hj) (w6 j) hw
  refine ⟨by omega, fun o ho => ?_⟩
  rw [List.mem_range] at ho
  by_cases e : o = j
  ·rw [decide_eq_true e]; rfl
  ·have h2 := h.2.2 o ho e
   rw [pF_at SV ho, mask_last (ne o ho) (w6 o)] at h2
   rw [decide_eq_true (show (fR (jlL s x y o)).mx ≥ (fR (jlL s x y j)).mn by omega), Bool.or_true]
 ·rintro ⟨h1, h2⟩
  refine ⟨_, mn_mem (ne j hj) (w6 j), ?_⟩
  rw [Bool.and_eq_true, decide_eq_true_eq, decide_eq_true_eq, le_lat]
  refine ⟨by omega, by omega, fun i hi hne => ?_⟩
  have h3 := h2 i (List.mem_range.2 hi)
  rw [decide_eq_false hne, Bool.false_or, decide_eq_true_eq] at h3
  rw [pF_at SV hi, mask_last (ne i hi) (w6 i)]
  omega
theorem noF_eq {j : Nat} (hj : j < s.joints.length) : noF s j (pF s x y) = nonP s x y j s.joints.length := by
 have hw6 := SV.b.w6
 have ne : ∀ i, i < s.joints.length → jlL s x y i ≠ [] := fun i hi => jl_ne SV hx hy hi
 have w6 : ∀ i, ∀ z ∈ jlL s x y i, z.week ≤ 6 := fun i z hz => by have := jl_week SV hz; omega
 have hb := jl_bd SV hx hy hj
 rw [Bool.eq_iff_iff]
 unfold noF nonP noW
 rw [List.any_eq_true, Bool.or_eq_true, List.any_eq_true, decide_eq_true_eq, pF_at SV hj]
 constructor
 ·rintro ⟨w, hw, h⟩
  rw [Bool.or_eq_true, decide_eq_true_eq, decide_eq_true_eq] at h
  have h1 := le_mx (ne j hj) (w6 j) hw
  by_cases hl : (fR (jlL s x y j)).mx = (s.heats.length : Int)
  ·exact .inl hl
  ·have hns : ¬ w ≤ soonP s (pF s x y) j s.joints.length := by omega
   rw [le_soon] at hns
   refine .inr (Classical.byContradiction fun hc => hns ⟨by omega, fun i hi hne => ?_⟩)
   rw [pF_at SV hi, mask_head (ne i hi) (w6 i)]
   have : ¬ (fR (jlL s x y i)).mn < (fR (jlL s x y j)).mx := fun hlt => hc ⟨i, List.mem_range.2 hi, by rw [decide_eq_false hne, decide_eq_true hlt]; rfl⟩
   omega
 ·intro h
  refine ⟨_, mx_mem (ne j hj) (w6 j), ?_⟩
  rw [Bool.or_eq_true, decide_eq_true_eq, decide_eq_true_eq]
  rcases h with h | ⟨o, ho, h⟩
  ·exact .inl (by omega)
  ·rw [List.mem_range] at ho
   rw [Bool.and_eq_true, decide_eq_true_eq] at h
   have hne : o ≠ j := by have := h.1; simpa using this
   refine .inr (Int.lt_of_not_ge fun hle => ?_)
   have h2 := ((le_soon (pF s x y) j _ _).1 hle).2 o ho hne
   rw [pF_at SV ho, mask_head (ne o ho) (w6 o)] at h2
   omega
def lsN (s : Season) (x y : List Int) (w : Int) : Nat → Nat
 | 0 => 0
 | i + 1 => lsN s x y w i + if (fR (jlL s x y i)).mn > w then 1 else 0
def msN (s : Season) (x y : List Int) (w : Int) : Nat → Nat
 | 0 => 0
 | i + 1 => msN s x y w i + if (fR (jlL s x y i)).mx > w then 1 else 0
theorem must_eq {w : Nat} (hw : w < s.heats.length) : ∀ n, n ≤ s.joints.length → mustN (pF s x y) w n = lsN s x y w n ∧ canN (pF s x y) w n = msN s x y w n
 | 0, _ => ⟨rfl, rfl⟩
 | n + 1, h => by
  have hw6 := SV.b.w6
  have ne : jlL s x y n ≠ [] := jl_ne SV hx hy (by omega)
  have w6 : ∀ z ∈ jlL s x y n, z.week ≤ 6 := fun z hz => by have := jl_week SV hz; omega
  obtain ⟨i1, i2⟩ := must_eq hw n (by omega)
  have h0 : maskM (jlL s x y n) ≠ 0 := fun e => ne ((maskM_zero _).1 e)
  have hlt : maskM (jlL s x y n) < 128 := maskM_lt w6
  obtain ⟨e1, e2, _⟩ := list_ends ⟨maskM (jlL s x y n), hlt⟩ ⟨w, by omega⟩ h0
  dsimp only at e1 e2
  rw [mask_head ne w6] at e1
  rw [mask_last ne w6] at e2
  rw [mustN, canN, lsN, msN, i1, i2, pF_at SV (by omega)]
  constructor
  ·congr 1
   by_cases hc : uptoM (maskM (jlL s x y n)) w = 0
   ·rw [if_pos hc, if_pos]
    have := of_decide_eq_false (e1.symm.trans (decide_eq_false (not_not_intro hc)))
    omega
   ·rw [if_neg hc, if_neg]
    have := of_decide_eq_true (e1.symm.trans (decide_eq_true hc))
    omega
  ·congr 1
   by_cases hc : maskM (jlL s x y n) = uptoM (maskM (jlL s x y n)) w
   ·rw [if_neg (not_not_intro hc), if_neg]
    exact of_decide_eq_false (e2.symm.trans (decide_eq_false (not_not_intro hc)))
   ·rw [if_pos hc, if_pos]
    exact of_decide_eq_true (e2.symm.trans (decide_eq_true hc))
end
end Go.Proofs.Ytgjcepdhclmglaa
namespace Go.Proofs.Ytgjcepdhclmglaa
open Go Go.HL Go.Proofs Go.Wx
variable [Lvl]
def chS (out : List (List Int)) (r : Rg) : List (List Int) := out.flatMap fun x => (rangeI r.mn (r.mx + 1)).map fun n => x ++ [n]
def chL (rs : List Rg) : List (List Int) := rs.foldl chS [[]]
theorem wth_next {rs : List Rg} : ∀ (m : Nat) (x : List Int), wthM rs (m + 1) x = (wthM rs m x).flatMap fun y => (rangeI (rs.getD y.length default).mn ((rs.getD y.length default).mx + 1)).map fun n => y ++ [n]
 | 0, x => by
  rw [wthM]
  simp only [wthM, List.flatMap_cons, List.flatMap_nil, List.append_nil]
  rw [List.map_eq_flatMap]
 | m + 1, x => by
  rw [wthM, show wthM rs (m + 1) x = (rangeI (rs.getD x.length default).mn ((rs.getD x.length default).mx + 1)).flatMap fun t => wthM rs m (x ++ [t]) from rfl, List.flatMap_assoc]
  refine congrArg (fun f => List.flatMap f _) ?_
  funext t
  exact wth_next m (x ++ [t])
theorem flatMap_congr' {α β : Type} {f g : α → List β} : ∀ {l : List α}, (∀ x ∈ l, f x = g x) → l.flatMap f = l.flatMap g
 | [], _ => rfl
 | a :: l, h => by rw [List.flatMap_cons, List.flatMap_cons, h a (List.mem_cons_self ..), flatMap_congr' fun x hx => h x (List.mem_cons_of_mem _ hx)]
theorem ch_take {rs : List Rg} : ∀ k, k ≤ rs.length → (rs.take k).foldl chS [[]] = wthM rs k []
 | 0, _ => by rw [List.take_zero]; rfl
 | k + 1, h => by
  rw [List.take_succ_eq_append_getElem (by omega), List.foldl_append, ch_take k (by omega), wth_next]
  show chS _ _ = _
  unfold chS
  apply flatMap_congr'
  intro y hy
  have h1 := wth_len k [] y hy
  rw [List.length_nil, Nat.zero_add] at h1
  have h2 : rs.getD y.length default = rs[k] := by rw [h1, List.getD_eq_getElem?_getD, List.getElem?_eq_getElem (by omega)]; rfl
  rw [h2]
theorem ch_wth (rs : List Rg) : chL rs = wthM rs rs.length [] := by
 have := ch_take (rs := rs) rs.length (Nat.le_refl _)
 rw [List.take_length] at this
 exact this
theorem mem_ch4 {a b c d : Rg} {z : List Int} : z ∈ chL [a, b, c, d] ↔ ∃ p q r t : Int, (a.mn ≤ p ∧ p ≤ a.mx) ∧ (b.mn ≤ q ∧ q ≤ b.mx) ∧ (c.mn ≤ r ∧ r ≤ c.mx) ∧ (d.mn ≤ t ∧ t ≤ d.mx) ∧ z = [p, q, r, t] := by
 unfold chL
 simp only [List.foldl_cons, List.foldl_nil]
 unfold chS
 simp only [List.mem_flatMap, List.mem_map, mem_rangeI, List.mem_singleton]
 constructor
 ·rintro ⟨_, ⟨_, ⟨_, ⟨_, rfl, p, hp, rfl⟩, q, hq, rfl⟩, r, hr, rfl⟩, t, ht, rfl⟩
  exact ⟨p, q, r, t, by omega, by omega, by omega, by omega, rfl⟩
 ·rintro ⟨p, q, r, t, hp, hq, hr, ht, rfl⟩
  exact ⟨_, ⟨_, ⟨_, ⟨_, rfl, p, by omega, rfl⟩, q, by omega, rfl⟩, r, by omega, rfl⟩, t, by omega, rfl⟩
structure Tru where
 x : List Int
 y : List Int
 c : List Int
 d : List Int
 deriving Inhabited
def wOf (s : Season) (t : Tru) (j : Nat) : List Int := if kindAt s j = 2 then t.y else t.x
def cOf (t : Tru) (j : Nat) : List Int := if j = 1 then t.d else t.c
def flN (H : Nat) (x c : List Int) : Fl := failM (skyOf x) H (c.getD 0 0) (c.getD 1 0) (c.getD 2 0).toNat (c.getD 3 0).toNat
def flT (s : Season) (t : Tru) (j : Nat) : Fl := flN s.heats.length (wOf s t j) (cOf t j)
def saidK (s : Season) (t : Tru) (j k : Nat) : Bool := (s.reports.take k).all fun r => !decide (r.joint = (j : Int)) || (r.failed == decide (((flT s t j).week : Int) ≤ r.week))
def said (s : Season) (t : Tru) (j : Nat) : Bool := saidK s t j s.reports.length
def fineK (s : Season) (t : Tru) (k : Nat) : Bool := (List.range k).all fun j => said s t j
def fineT (s : Season) (t : Tru) : Bool := fineK s t s.joints.length
theorem saidK_succ {s : Season} {t : Tru} {j k : Nat} (h : k < s.reports.length) : saidK s t j (k + 1) = (saidK s t j k && (!decide (s.reports[k].joint = (j : Int)) || (s.reports[k].failed == decide (((flT s t j).week : Int) ≤ s.reports[k].week)))) := by
 unfold saidK; rw [List.take_succ_eq_append_getElem h, List.all_append]; simp
theorem fineK_succ (s : Season) (t : Tru) (k : Nat) : fineK s t (k + 1) = (fineK s t k && said s t k) := by
 unfold fineK; rw [List.range_succ, List.all_append]; simp
def ownL (s : Season) (j : Nat) : List (List Int) := match s.joints[j]? with | some x => chL [x.high, x.low, x.weeks, x.life] | none => [[]]
def truths (s : Season) : List Tru := (chL s.heats).flatMap fun x => (chL s.damps).flatMap fun y => (ownL s 0).flatMap fun c => (ownL s 1).map fun d => ⟨x, y, c, d⟩
def goodT (s : Season) : List Tru := (truths s).filter (fineT s)
theorem mem_truths {s : Season} {t : Tru} : t ∈ truths s ↔ t.x ∈ chL s.heats ∧ t.y ∈ chL s.damps ∧ t.c ∈ ownL s 0 ∧ t.d ∈ ownL s 1 := by
 unfold truths
 simp only [List.mem_flatMap, List.mem_map]
 constructor
 ·rintro ⟨x, hx, y, hy, c, hc, d, hd, rfl⟩
  exact ⟨hx, hy, hc, hd⟩
 ·rintro ⟨hx, hy, hc, hd⟩
  exact ⟨_, hx, _, hy, _, hc, _, hd, rfl⟩
def fstT (s : Season) (t : Tru) (j : Nat) : Bool := decide (((flT s t j).week : Int) ≤ (s.heats.length : Int) - 1) && (List.range s.joints.length).all fun o => decide ((flT s t o).week ≥ (flT s t j).week)
def cntT (s : Season) (t : Tru) (w : Int) : Nat → Nat
 | 0 => 0
 | k + 1 => cntT s t w k + if ((flT s t k).week : Int) > w then 1 else 0
theorem cntT_le (s : Season) (t : Tru) (w : Int) : ∀ k, cntT s t w k ≤ k
 | 0 => Nat.le_refl _
 | k + 1 => by have := cntT_le s t w k; rw [cntT]; split <;> omega
section
variable {s : Season} (SV : SeasonV s) (j2 : s.joints.length ≤ 2)
include SV
theorem w1_6 (n : Int) : (weatherM s n).length ≤ 6 := by rw [(SV.b.wb n).1]; exact SV.b.w6
theorem chH : chL s.heats = allW s 1 := ch_wth _
theorem chD : chL s.damps = allW s 2 := ch_wth _
omit SV in
theorem ownL_some {j : Nat} (hj : j < s.joints.length) : ownL s j = chL [s.joints[j].high, s.joints[j].low, s.joints[j].weeks, s.joints[j].life] := by
 unfold ownL; rw [List.getElem?_eq_getElem hj]
omit SV in
theorem own_mem {t : Tru} (ht : t ∈ truths s) {j : Nat} (hj : j < s.joints.length) (j2 : s.joints.length ≤ 2) : cOf t j ∈ chL [s.joints[j].high, s.joints[j].low, s.joints[j].weeks, s.joints[j].life] := by
 obtain ⟨_, _, h3, h4⟩ := mem_truths.1 ht
 unfold cOf
 rcases (show j = 0 ∨ j = 1 by omega) with rfl | rfl
 ·rw [if_neg (by decide), ← ownL_some hj]; exact h3
 ·rw [if_pos rfl, ← ownL_some hj]; exact h4
theorem fl_mem {t : Tru} (ht : t ∈ truths s) {j : Nat} (hj : j < s.joints.length) (j2 : s.joints.length ≤ 2) : flT s t j ∈ failuresM s.joints[j] (skyOf (wOf s t j)) s.heats.length := by
 obtain ⟨p, q, r, u, h1, h2, h3, h4, e⟩ := mem_ch4.1 (own_mem ht hj j2)
 refine mem_failuresM.2 ⟨p, q, r, u, h1, h2, h3, h4, ?_⟩
 unfold flT flN
 rw [e]
 rfl
theorem said_bit {t : Tru} {j : Nat} : said s t j = (toldW s j).testBit (flT s t j).week := by
 have h6 := SV.b.w6
 have hle : (flT s t j).week ≤ s.heats.length := weekM_le ..
 rw [toldW_bit s h6 (fun r hr => (SV.b.rw r hr).1) j _ (by omega), decide_eq_true hle, Bool.true_and]
 unfold said saidK
 rw [List.take_length]
theorem good_jl {t : Tru} (ht : t ∈ goodT s) (j2 : s.joints.length ≤ 2) {j : Nat} (hj : j < s.joints.length) : flT s t j ∈ jlL s t.x t.y j := by
 obtain ⟨h1, h2⟩ := List.mem_filter.1 ht
 have h3 := List.all_eq_true.1 h2 j (List.mem_range.2 hj)
 rw [said_bit SV] at h3
 have h4 := fl_mem SV h1 hj j2
 have hk : kindAt s j = s.joints[j].kind := kindAt_some (List.getElem?_eq_getElem hj)
 unfold wOf at h4
 unfold jlL
 rcases kind12 SV hj with h | h
 ·rw [if_neg (by rw [h]; decide)] at h4 ⊢
  unfold surv
  rw [List.getElem?_eq_getElem hj]
  simp only
  rw [if_pos (by rw [← hk, h])]
  exact List.mem_filter.2 ⟨h4, h3⟩
 ·rw [if_pos h] at h4 ⊢
  unfold surv
  rw [List.getElem?_eq_getElem hj]
  simp only
  rw [if_pos (by rw [← hk, h])]
  exact List.mem_filter.2 ⟨h4, h3⟩
theorem good_sk {t : Tru} (ht : t ∈ goodT s) (j2 : s.joints.length ≤ 2) : t.x ∈ rSk s 1 ∧ t.y ∈ rSk s 2 := by
 obtain ⟨h1, _⟩ := List.mem_filter.1 ht
 obtain ⟨h3, h4, _, _⟩ := mem_truths.1 h1
 rw [chH SV] at h3
 rw [chD SV] at h4
 refine ⟨List.mem_filter.2 ⟨h3, ?_⟩, List.mem_filter.2 ⟨h4, ?_⟩⟩
 ·refine okM_iff.2 fun i j hj hk e => ?_
  have hi := (List.getElem?_eq_some_iff.1 hj).1
  have hm := good_jl SV ht j2 hi
  unfold jlL at hm
  rw [if_neg (by rw [kindAt_some hj, hk]; decide), e] at hm
  cases hm
 ·refine okM_iff.2 fun i j hj hk e => ?_
  have hi := (List.getElem?_eq_some_iff.1 hj).1
  have hm := good_jl SV ht j2 hi
  unfold jlL at hm
  rw [if_pos (by rw [kindAt_some hj, hk]), e] at hm
  cases hm
theorem jl_own {x y : List Int} {j : Nat} (hj : j < s.joints.length) {f : Fl} (h : f ∈ jlL s x y j) : ∃ c ∈ ownL s j, flN s.heats.length (if kindAt s j = 2 then y else x) c = f ∧ (toldW s j).testBit f.week = true := by
 have key : ∀ (n : Int) (z : List Int), f ∈ surv s n (skyOf z) j → ∃ c ∈ ownL s j, flN s.heats.length z c = f ∧ (toldW s j).testBit f.week = true := by
  intro n z hz
  unfold surv at hz
  rw [List.getElem?_eq_getElem hj] at hz
  simp only at hz
  split at hz
  ·obtain ⟨h1, h2⟩ := List.mem_filter.1 hz
   obtain ⟨p, q, r, u, k1, k2, k3, k4, e⟩ := mem_failuresM.1 h1
   refine ⟨[p, q, r, u], ?_, e.symm, h2⟩
   rw [ownL_some hj]
   exact mem_ch4.2 ⟨p, q, r, u, k1, k2, k3, k4, rfl⟩
  ·cases hz
 unfold jlL at h
 split at h
 ·rename_i hk; rw [if_pos hk]; exact key 2 y h
 ·rename_i hk; rw [if_neg hk]; exact key 1 x h
theorem tru_ex {x y : List Int} (hx : x ∈ rSk s 1) (hy : y ∈ rSk s 2) (j2 : s.joints.length ≤ 2) (F : Nat → Fl) (hF : ∀ j, j < s.joints.length → F j ∈ jlL s x y j) : ∃ t ∈ goodT s, t.x = x ∧ t.y = y ∧ ∀ j, j < s.joints.length → flT s t j = F j := by
 have ex : ∀ j, ∃ c ∈ ownL s j, j < s.joints.length → flN s.heats.length (if kindAt s j = 2 then y else x) c = F j ∧ (toldW s j).testBit (F j).week = true := by
  intro j
  by_cases hj : j < s.joints.length
  ·obtain ⟨c, h1, h2⟩ := jl_own SV hj (hF j hj)
   exact ⟨c, h1, fun _ => h2⟩
  ·refine ⟨[], ?_, fun h => absurd h hj⟩
   unfold ownL
   rw [List.getElem?_eq_none (by omega)]
   exact List.mem_singleton.2 rfl
 obtain ⟨c, hc, kc⟩ := ex 0
 obtain ⟨d, hd, kd⟩ := ex 1
 have hfl : ∀ j, j < s.joints.length → flT s ⟨x, y, c, d⟩ j = F j ∧ (toldW s j).testBit (F j).week = true := by
  intro j hj
  rcases (show j = 0 ∨ j = 1 by omega) with rfl | rfl
  ·exact kc hj
  ·exact kd hj
 refine ⟨⟨x, y, c, d⟩, List.mem_filter.2 ⟨mem_truths.2 ⟨?_, ?_, hc, hd⟩, ?_⟩, rfl, rfl, fun j hj => (hfl j hj).1⟩
 ·rw [chH SV]; exact (List.mem_filter.1 hx).1
 ·rw [chD SV]; exact (List.mem_filter.1 hy).1
 ·refine List.all_eq_true.2 fun j hj => ?_
  have hj := List.mem_range.1 hj
  rw [said_bit SV, (hfl j hj).1]
  exact (hfl j hj).2
theorem tru_one {x y : List Int} (hx : x ∈ rSk s 1) (hy : y ∈ rSk s 2) (j2 : s.joints.length ≤ 2) (F : Nat → Fl) (P : Nat → Prop) (hF : ∀ j, j < s.joints.length → P j → F j ∈ jlL s x y j) : ∃ t ∈ goodT s, t.x = x ∧ t.y = y ∧ ∀ j, j < s.joints.length → P j → flT s t j = F j := by
 classical
 obtain ⟨t, h1, h2, h3, h4⟩ := tru_ex SV hx hy j2 (fun j => if P j then F j else (jlL s x y j).headD default) fun j hj => by
  by_cases hp : P j
  ·rw [if_pos hp]; exact hF j hj hp
  ·rw [if_neg hp]
   have hne := jl_ne SV hx hy hj
   cases e : jlL s x y j with
   | nil => exact absurd e hne
   | cons a l => exact List.mem_cons_self ..
 exact ⟨t, h1, h2, h3, fun j hj hp => by rw [h4 j hj, if_pos hp]⟩
theorem good_some (j2 : s.joints.length ≤ 2) : decide (goodT s ≠ []) = mayM s := by
 rw [rMay (w1_6 SV 1) (w1_6 SV 2), Bool.eq_iff_iff, decide_eq_true_eq, Bool.and_eq_true, decide_eq_true_eq, decide_eq_true_eq]
 constructor
 ·intro h
  obtain ⟨t, ht⟩ := List.exists_mem_of_ne_nil _ h
  obtain ⟨h1, h2⟩ := good_sk SV ht j2
  exact ⟨List.length_pos_of_mem h1, List.length_pos_of_mem h2⟩
 ·rintro ⟨h1, h2⟩
  obtain ⟨x, hx⟩ := List.exists_mem_of_length_pos h1
  obtain ⟨y, hy⟩ := List.exists_mem_of_length_pos h2
  obtain ⟨t, ht, _⟩ := tru_one SV hx hy j2 (fun _ => default) (fun _ => False) fun _ _ h => h.elim
  exact List.ne_nil_of_mem ht
theorem good_low (j2 : s.joints.length ≤ 2) (hne : goodT s ≠ []) (w : Nat) : weekR ((goodT s).map fun t => skyOf t.x) w = weekR (skM s 1) w ∧ weekR ((goodT s).map fun t => skyOf t.y) w = weekR (skM s 2) w := by
 obtain ⟨t0, ht0⟩ := List.exists_mem_of_ne_nil _ hne
 obtain ⟨hx0, hy0⟩ := good_sk SV ht0 j2
 constructor
 ·refine week_same (fun z => ?_) (by simpa using hne) w
  rw [mem_rSk (w1_6 SV 1), List.mem_map]
  constructor
  ·rintro ⟨t, ht, rfl⟩
   exact ⟨t.x, (good_sk SV ht j2).1, rfl⟩
  ·rintro ⟨x, hx, rfl⟩
   obtain ⟨t, ht, e, _⟩ := tru_one SV hx hy0 j2 (fun _ => default) (fun _ => False) fun _ _ h => h.elim
   exact ⟨t, ht, by rw [e]⟩
 ·refine week_same (fun z => ?_) (by simpa using hne) w
  rw [mem_rSk (w1_6 SV 2), List.mem_map]
  constructor
  ·rintro ⟨t, ht, rfl⟩
   exact ⟨t.y, (good_sk SV ht j2).2, rfl⟩
  ·rintro ⟨y, hy, rfl⟩
   obtain ⟨t, ht, _, e, _⟩ := tru_one SV hx0 hy j2 (fun _ => default) (fun _ => False) fun _ _ h => h.elim
   exact ⟨t, ht, by rw [e]⟩
theorem good_any (j2 : s.joints.length ≤ 2) (hne : goodT s ≠ []) {j : Nat} (hj : j < s.joints.length) (p : Fl → Bool) : ((goodT s).any fun t => p (flT s t j)) = (flsM s (kindAt s j) j).any p := by
 obtain ⟨t0, ht0⟩ := List.exists_mem_of_ne_nil _ hne
 obtain ⟨hx0, hy0⟩ := good_sk SV ht0 j2
 rw [Bool.eq_iff_iff, List.any_eq_true, List.any_eq_true]
 constructor
 ·rintro ⟨t, ht, hp⟩
  refine ⟨flT s t j, ?_, hp⟩
  have h1 := good_jl SV ht j2 hj
  obtain ⟨h2, h3⟩ := good_sk SV ht j2
  unfold jlL at h1
  rcases kind12 SV hj with h | h
  ·rw [if_neg (by rw [h]; decide)] at h1
   rw [h, rSk_fls (w1_6 SV 1)]
   exact List.mem_flatMap.2 ⟨_, h2, h1⟩
  ·rw [if_pos h] at h1
   rw [h, rSk_fls (w1_6 SV 2)]
   exact List.mem_flatMap.2 ⟨_, h3, h1⟩
 ·rintro ⟨f, hf, hp⟩
  rcases kind12 SV hj with h | h
  ·rw [h, rSk_fls (w1_6 SV 1)] at hf
   obtain ⟨x, hx, hf⟩ := List.mem_flatMap.1 hf
   obtain ⟨t, ht, _, _, e⟩ := tru_one SV hx hy0 j2 (fun _ => f) (fun i => i = j) fun i _ hi => by
    subst hi
    unfold jlL
    rw [if_neg (by rw [h]; decide)]
    exact hf
   exact ⟨t, ht, by rw [e j hj rfl]; exact hp⟩
  ·rw [h, rSk_fls (w1_6 SV 2)] at hf
   obtain ⟨y, hy, hf⟩ := List.mem_flatMap.1 hf
   obtain ⟨t, ht, _, _, e⟩ := tru_one SV hx0 hy j2 (fun _ => f) (fun i => i = j) fun i _ hi => by
    subst hi
    unfold jlL
    rw [if_pos h]
    exact hf
   exact ⟨t, ht, by rw [e j hj rfl]; exact hp⟩
theorem jl_min {x y : List Int} {i : Nat} (hne : jlL s x y i ≠ []) : ∃ z ∈ jlL s x y i, (z.week : Int) = (fR (jlL s x y i)).mn := by
 have h6 : ∀ z ∈ jlL s x y i, z.week ≤ 6 := fun z hz => by have := jl_week SV hz; have := SV.b.w6; omega
 obtain ⟨z, hz, e⟩ := (mask_mem hne h6).1 (mn_mem hne h6)
 exact ⟨z, hz, e.symm⟩
theorem jl_max {x y : List Int} {i : Nat} (hne : jlL s x y i ≠ []) : ∃ z ∈ jlL s x y i, (z.week : Int) = (fR (jlL s x y i)).mx := by
 have h6 : ∀ z ∈ jlL s x y i, z.week ≤ 6 := fun z hz => by have := jl_week SV hz; have := SV.b.w6; omega
 obtain ⟨z, hz, e⟩ := (mask_mem hne h6).1 (mx_mem hne h6)
 exact ⟨z, hz, e.symm⟩
theorem good_bd {t : Tru} (ht : t ∈ goodT s) (j2 : s.joints.length ≤ 2) {j : Nat} (hj : j < s.joints.length) : (fR (jlL s t.x t.y j)).mn ≤ ((flT s t j).week : Int) ∧ ((flT s t j).week : Int) ≤ (fR (jlL s t.x t.y j)).mx := by
 obtain ⟨hx, hy⟩ := good_sk SV ht j2
 have hm := good_jl SV ht j2 hj
 have hne := jl_ne SV hx hy hj
 exact ⟨(fLo_iff hne _).1 (Int.le_refl _) _ hm, (fHi_iff hne _).1 (Int.le_refl _) _ hm⟩
theorem good_pick {x y : List Int} (hx : x ∈ rSk s 1) (hy : y ∈ rSk s 2) (j2 : s.joints.length ≤ 2) (up : Nat → Bool) : ∃ t ∈ goodT s, t.x = x ∧ t.y = y ∧ ∀ j, j < s.joints.length → ((flT s t j).week : Int) = if up j = true then (fR (jlL s x y j)).mx else (fR (jlL s x y j)).mn := by
 have ex : ∀ j, ∃ f, j < s.joints.length → f ∈ jlL s x y j ∧ (f.week : Int) = if up j = true then (fR (jlL s x y j)).mx else (fR (jlL s x y j)).mn := by
  intro j
  by_cases hj : j < s.joints.length
  ·have hne := jl_ne SV hx hy hj
   cases hu : up j with
   | true => obtain ⟨z, h1, h2⟩ := jl_max SV hne; exact ⟨z, fun _ => ⟨h1, by rw [if_pos rfl]; exact h2⟩⟩
   | false => obtain ⟨z, h1, h2⟩ := jl_min SV hne; exact ⟨z, fun _ => ⟨h1, by rw [if_neg (by decide)]; exact h2⟩⟩
  ·exact ⟨default, fun h => absurd h hj⟩
 obtain ⟨t, h1, h2, h3, h4⟩ := tru_ex SV hx hy j2 (fun j => Classical.choose (ex j)) fun j hj => (Classical.choose_spec (ex j) hj).1
 exact ⟨t, h1, h2, h3, fun j hj => by rw [h4 j hj]; exact (Classical.choose_spec (ex j) hj).2⟩
theorem fst_iff {t : Tru} {j : Nat} : fstT s t j = true ↔ ((flT s t j).week : Int) ≤ (s.heats.length : Int) - 1 ∧ ∀ o, o < s.joints.length → (flT s t j).week ≤ (flT s t o).week := by
 unfold fstT
 rw [Bool.and_eq_true, decide_eq_true_eq, List.all_eq_true]
 constructor
 ·rintro ⟨h1, h2⟩
  exact ⟨h1, fun o ho => by simpa using h2 o (List.mem_range.2 ho)⟩
 ·rintro ⟨h1, h2⟩
  exact ⟨h1, fun o ho => by simpa using h2 o (List.mem_range.1 ho)⟩
theorem any_fates (p : Fate → Bool) : (allFates s).any p = true ↔ ∃ x ∈ rSk s 1, ∃ y ∈ rSk s 2, p (pF s x y) = true := by
 rw [allFates_eq (w1_6 SV 1) (w1_6 SV 2), List.any_eq_true]
 simp only [List.mem_flatMap, List.mem_map]
 constructor
 ·rintro ⟨f, ⟨x, hx, y, hy, rfl⟩, h⟩; exact ⟨x, hx, y, hy, h⟩
 ·rintro ⟨x, hx, y, hy, h⟩; exact ⟨_, ⟨x, hx, y, hy, rfl⟩, h⟩
theorem good_first (j2 : s.joints.length ≤ 2) {j : Nat} (hj : j < s.joints.length) : ((goodT s).any fun t => fstT s t j) = (allFates s).any (isF s j) := by
 rw [Bool.eq_iff_iff, any_fates SV, List.any_eq_true]
 constructor
 ·rintro ⟨t, ht, h⟩
  obtain ⟨hx, hy⟩ := good_sk SV ht j2
  obtain ⟨h1, h2⟩ := (fst_iff SV).1 h
  refine ⟨t.x, hx, t.y, hy, ?_⟩
  rw [isF_eq SV hx hy hj]
  unfold fstP
  rw [Bool.and_eq_true, decide_eq_true_eq, List.all_eq_true]
  have b := good_bd SV ht j2 hj
  refine ⟨by omega, fun o ho => ?_⟩
  have ho := List.mem_range.1 ho
  have b2 := good_bd SV ht j2 ho
  have := h2 o ho
  rw [decide_eq_true (show (fR (jlL s t.x t.y o)).mx ≥ (fR (jlL s t.x t.y j)).mn by omega), Bool.or_true]
 ·rintro ⟨x, hx, y, hy, h⟩
  rw [isF_eq SV hx hy hj] at h
  unfold fstP at h
  rw [Bool.and_eq_true, decide_eq_true_eq, List.all_eq_true] at h
  obtain ⟨t, ht, _, _, e⟩ := good_pick SV hx hy j2 (fun i => !decide (i = j))
  have ej := e j hj
  rw [if_neg (by simp)] at ej
  refine ⟨t, ht, (fst_iff SV).2 ⟨by omega, fun o ho => ?_⟩⟩
  by_cases hoj : o = j
  ·rw [hoj]; exact Nat.le_refl _
  ·have eo := e o ho
   rw [if_pos (by simp [hoj])] at eo
   have := h.2 o (List.mem_range.2 ho)
   rw [decide_eq_false hoj, Bool.false_or, decide_eq_true_eq] at this
   omega
theorem good_last (j2 : s.joints.length ≤ 2) {j : Nat} (hj : j < s.joints.length) : ((goodT s).any fun t => !fstT s t j) = (allFates s).any (noF s j) := by
 rw [Bool.eq_iff_iff, any_fates SV, List.any_eq_true]
 constructor
 ·rintro ⟨t, ht, h⟩
  obtain ⟨hx, hy⟩ := good_sk SV ht j2
  refine ⟨t.x, hx, t.y, hy, ?_⟩
  rw [noF_eq SV hx hy hj]
  unfold nonP
  rw [Bool.or_eq_true, decide_eq_true_eq, List.any_eq_true]
  have b := good_bd SV ht j2 hj
  have b0 := jl_bd SV hx hy hj
  have h : ¬ fstT s t j = true := by simpa using h
  rw [fst_iff SV] at h
  by_cases h1 : ((flT s t j).week : Int) ≤ (s.heats.length : Int) - 1
  ·refine .inr (Classical.byContradiction fun hc => h ⟨h1, fun o ho => ?_⟩)
   by_cases hoj : o = j
   ·rw [hoj]; exact Nat.le_refl _
   ·have b2 := good_bd SV ht j2 ho
    refine Nat.le_of_not_lt fun hlt => hc ⟨o, List.mem_range.2 ho, ?_⟩
    rw [decide_eq_false hoj, decide_eq_true (show (fR (jlL s t.x t.y o)).mn < (fR (jlL s t.x t.y j)).mx by omega)]
    rfl
  ·exact .inl (by omega)
 ·rintro ⟨x, hx, y, hy, h⟩
  rw [noF_eq SV hx hy hj] at h
  unfold nonP at h
  rw [Bool.or_eq_true, decide_eq_true_eq, List.any_eq_true] at h
  obtain ⟨t, ht, _, _, e⟩ := good_pick SV hx hy j2 (fun i => decide (i = j))
  have ej := e j hj
  rw [if_pos (by simp)] at ej
  refine ⟨t, ht, ?_⟩
  have key : ¬ fstT s t j = true := by
   rw [fst_iff SV]
   rintro ⟨h1, h2⟩
   rcases h with h | ⟨o, ho, h⟩
   ·omega
   ·have ho := List.mem_range.1 ho
    rw [Bool.and_eq_true, decide_eq_true_eq] at h
    have hoj : o ≠ j := by have := h.1; simpa using this
    have eo := e o ho
    rw [if_neg (by simp [hoj])] at eo
    have := h2 o ho
    have := h.2
    omega
  simpa using key
theorem cnt_bd {t : Tru} (ht : t ∈ goodT s) (j2 : s.joints.length ≤ 2) (w : Int) : ∀ k, k ≤ s.joints.length → lsN s t.x t.y w k ≤ cntT s t w k ∧ cntT s t w k ≤ msN s t.x t.y w k
 | 0, _ => ⟨Nat.le_refl _, Nat.le_refl _⟩
 | k + 1, h => by
  have ih := cnt_bd ht j2 w k (by omega)
  have b := good_bd SV ht j2 (show k < s.joints.length by omega)
  rw [lsN, msN, cntT]
  constructor
  ·by_cases h1 : (fR (jlL s t.x t.y k)).mn > w
   ·rw [if_pos h1, if_pos (by omega)]; omega
   ·rw [if_neg h1]; omega
  ·by_cases h1 : ((flT s t k).week : Int) > w
   ·rw [if_pos h1, if_pos (by omega)]; omega
   ·rw [if_neg h1]; omega
theorem cnt_pick {t : Tru} {x y : List Int} (w : Int) (up : Bool) (e : ∀ j, j < s.joints.length → ((flT s t j).week : Int) = if up = true then (fR (jlL s x y j)).mx else (fR (jlL s x y j)).mn) : ∀ k, k ≤ s.joints.length → cntT s t w k = if up = true then msN s x y w k else lsN s x y w k
 | 0, _ => by cases up <;> rfl
 | k + 1, h => by
  have ih := cnt_pick w up e k (by omega)
  have ek := e k (by omega)
  rw [cntT, ih, ek]
  cases up
  ·simp only [Bool.false_eq_true, if_false]
   rw [lsN]
  ·simp only [if_true]
   rw [msN]
def soundT' (s : Season) (w : Int) (L : List Tru) : Rg := ⟨L.foldl (fun m t => min m (cntT s t w s.joints.length : Int)) 99, L.foldl (fun m t => max m (cntT s t w s.joints.length : Int)) (-1)⟩
theorem good_sound (j2 : s.joints.length ≤ 2) (hne : goodT s ≠ []) {w : Nat} (hw : w < s.heats.length) : soundT' s w (goodT s) = ⟨(soundLo s w (allFates s) : Nat), (soundHi s w (allFates s) : Nat)⟩ := by
 obtain ⟨t0, ht0⟩ := List.exists_mem_of_ne_nil _ hne
 obtain ⟨hx0, hy0⟩ := good_sk SV ht0 j2
 have fex : ∀ f, f ∈ allFates s → ∃ x ∈ rSk s 1, ∃ y ∈ rSk s 2, pF s x y = f := fun f hf => by
  rw [allFates_eq (w1_6 SV 1) (w1_6 SV 2)] at hf
  simp only [List.mem_flatMap, List.mem_map] at hf
  exact hf
 have fin : ∀ x ∈ rSk s 1, ∀ y ∈ rSk s 2, pF s x y ∈ allFates s := fun x hx y hy => by
  rw [allFates_eq (w1_6 SV 1) (w1_6 SV 2)]
  simp only [List.mem_flatMap, List.mem_map]
  exact ⟨x, hx, y, hy, rfl⟩
 unfold soundT'
 congr 1
 ·have hi := (foldl_min (fun f => mustN f w s.joints.length) (allFates s) s.joints.length (soundLo s w (allFates s))).1 (Nat.le_refl _)
  have lo := (fmin_iff (fun t : Tru => (cntT s t w s.joints.length : Int)) (goodT s) 99 _).1 (Int.le_refl _)
  apply Int.le_antisymm
  ·refine Int.le_trans (Int.le_refl _) ?_
   have : ∀ f ∈ allFates s, (goodT s).foldl (fun m t => min m (cntT s t w s.joints.length : Int)) 99 ≤ (mustN f w s.joints.length : Int) := by
    intro f hf
    obtain ⟨x, hx, y, hy, rfl⟩ := fex f hf
    obtain ⟨t, ht, _, _, e⟩ := good_pick SV hx hy j2 (fun _ => false)
    have h1 := lo.2 t ht
    have h2 := cnt_pick SV (w : Int) false e s.joints.length (Nat.le_refl _)
    rw [if_neg (by decide)] at h2
    rw [h2] at h1
    rw [(must_eq SV hx hy hw _ (Nat.le_refl _)).1]
    exact h1
   have hJ := lo.2 t0 ht0
   have hc := cntT_le s t0 w s.joints.length
   have nn : 0 ≤ (goodT s).foldl (fun m t => min m (cntT s t w s.joints.length : Int)) 99 := (fmin_iff (fun t : Tru => (cntT s t w s.joints.length : Int)) (goodT s) 99 _).2 ⟨by omega, fun t _ => by omega⟩
   obtain ⟨z, hz⟩ := Int.eq_ofNat_of_zero_le nn
   rw [hz] at this hJ ⊢
   have : z ≤ soundLo s w (allFates s) := (foldl_min (fun f => mustN f w s.joints.length) (allFates s) s.joints.length z).2 ⟨by omega, fun f hf => by have := this f hf; omega⟩
   omega
  ·refine (fmin_iff (fun t : Tru => (cntT s t w s.joints.length : Int)) (goodT s) 99 _).2 ⟨by have := hi.1; omega, fun t ht => ?_⟩
   obtain ⟨hx, hy⟩ := good_sk SV ht j2
   have h1 := hi.2 _ (fin _ hx _ hy)
   rw [(must_eq SV hx hy hw _ (Nat.le_refl _)).1] at h1
   have h2 := (cnt_bd SV ht j2 (w : Int) s.joints.length (Nat.le_refl _)).1
   omega
 ·have lo := (foldl_max (fun f => canN f w s.joints.length) (allFates s) 0 (soundHi s w (allFates s))).1 (Nat.le_refl _)
  have hi := (fmax_iff (fun t : Tru => (cntT s t w s.joints.length : Int)) (goodT s) (-1) _).1 (Int.le_refl _)
  apply Int.le_antisymm
  ·refine (fmax_iff (fun t : Tru => (cntT s t w s.joints.length : Int)) (goodT s) (-1) _).2 ⟨by omega, fun t ht => ?_⟩
   obtain ⟨hx, hy⟩ := good_sk SV ht j2
   have h1 := lo.2 _ (fin _ hx _ hy)
   rw [(must_eq SV hx hy hw _ (Nat.le_refl _)).2] at h1
   have h2 := (cnt_bd SV ht j2 (w : Int) s.joints.length (Nat.le_refl _)).2
   omega
  ·have : ∀ f ∈ allFates s, (canN f w s.joints.length : Int) ≤ (goodT s).foldl (fun m t => max m (cntT s t w s.joints.length : Int)) (-1) := by
    intro f hf
    obtain ⟨x, hx, y, hy, rfl⟩ := fex f hf
    obtain ⟨t, ht, _, _, e⟩ := good_pick SV hx hy j2 (fun _ => true)
    have h1 := hi.2 t ht
    have h2 := cnt_pick SV (w : Int) true e s.joints.length (Nat.le_refl _)
    rw [if_pos rfl] at h2
    rw [h2] at h1
    rw [(must_eq SV hx hy hw _ (Nat.le_refl _)).2]
    exact h1
   have h0 := hi.2 t0 ht0
   have nn : 0 ≤ (goodT s).foldl (fun m t => max m (cntT s t w s.joints.length : Int)) (-1) := by omega
   obtain ⟨z, hz⟩ := Int.eq_ofNat_of_zero_le nn
   rw [hz] at this ⊢
   have : soundHi s w (allFates s) ≤ z := (foldl_max (fun f => canN f w s.joints.length) (allFates s) 0 z).2 ⟨by omega, fun f hf => by have := this f hf; omega⟩
   omega
end
end Go.Proofs.Ytgjcepdhclmglaa
namespace Go.Proofs.Ytgjcepdhclmglaa
open Go Go.HL Go.Proofs Go.Wx
section
variable [Lvl]
set_option maxRecDepth 100000
theorem ints_ok (l : List Int) (hl : l.length < 2 ^ 20) (A : Option Addr) (c : Nat) (h : AH) (R : Row h 1 intC A l) :
  FnM Try.prog (.func (.func 26) #[] ([] : List Value).toArray) [.slice A l.length c] h [] (fun v h' M' => ∃ a : Acc, M' = [a.p] ∧ v = .slice a.A a.n a.c ∧ AccR 3 1 (l.flatMap intC) a) := by
 refine fnM_body rfl rfl Try.func26 rfl Try.ntmps26 rfl ?_
 refine qF ?_
 refine qC rfl ?_
 refine qA (qE (v := .slice _ _ _) rfl) ?_
 refine qF ?_
 refine qC rfl ?_
 refine wG (zc := [_]) (vs := []) (cs := []) rfl rfl rfl rfl rfl rfl rfl fun b3 hb3 => ?_
 refine qH [_] rfl ?_
 refine qA (qB (v := .slice _ _ _) rfl) ?_
 refine zK 0 accR_new rfl rfl rfl (fun V => R.2.ext (zP (Ext.refl _) (wE V))) (wS R.1) (flat_plain intP l) rfl rfl rfl rfl rfl rfl rfl (by omega) rfl (by rw [wS R.1, List.length_nil]; omega) fun a0 h1a E1a ha0 => ?_
 refine qH [_] rfl ?_
 refine qA (qE (v := .slice _ _ _) rfl) ?_
 rw [List.nil_append] at ha0
 refine wK ?_
 refine qW (vs := [_]) Try.results26 ⟨qR rfl rfl, trivial⟩ fun V => ?_
 exact ⟨_, [a0.p], rfl, V, E1a, a0, rfl, rfl, ha0⟩
theorem slr1_nil {h : AH} : SlR h 1 intC [] (.slice none 0 0) := ⟨none, 0, rfl, fun _ h => (by cases h), Rd.nil _ _⟩
def chK (out : List (List Int)) (r : Rg) (k : Nat) : List (List Int) := chS (out.take k) r
def chN (x : List Int) (r : Rg) (n : Int) : List (List Int) := (rangeI r.mn n).map fun t => x ++ [t]
theorem chK_succ {out : List (List Int)} {r : Rg} {k : Nat} (h : k < out.length) : chK out r (k + 1) = chK out r k ++ chN out[k] r (r.mx + 1) := by
 unfold chK chS chN
 rw [List.take_succ_eq_append_getElem h, List.flatMap_append]
 simp
theorem chN_succ {x : List Int} {r : Rg} {n : Int} (h : r.mn ≤ n) : chN x r (n + 1) = chN x r n ++ [x ++ [n]] := by
 unfold chN; rw [rangeI_succ h, List.map_append]; rfl
theorem ch_small {rs : List Rg} (h6 : rs.length ≤ 6) (hb : ∀ r ∈ rs, r.mx ≤ r.mn + 9) : ∀ k, k ≤ rs.length → ((rs.take k).foldl chS [[]]).length ≤ 10 ^ k
 | 0, _ => by rw [List.take_zero]; simp
 | k + 1, h => by
  have ih := ch_small h6 hb k (by omega)
  rw [List.take_succ_eq_append_getElem (by omega), List.foldl_append]
  show (chS _ _).length ≤ _
  unfold chS
  have h1 := flatMap_len (fun x : List Int => (rangeI rs[k].mn (rs[k].mx + 1)).map fun n => x ++ [n]) 10 ((rs.take k).foldl chS [[]]) fun x _ => by
   rw [List.length_map, rangeI_len]
   have := hb _ (List.getElem_mem (show k < rs.length by omega))
   omega
  refine Nat.le_trans h1 ?_
  rw [Nat.pow_succ]
  exact Nat.mul_le_mul_right _ ih
theorem ch_lens {rs : List Rg} (k : Nat) (h : k ≤ rs.length) {x : List Int} (hx : x ∈ (rs.take k).foldl chS [[]]) : x.length = k := by
 rw [ch_take k h] at hx
 have := wth_len k [] x hx
 simpa using this
set_option maxHeartbeats 4000000 in
theorem choices_ok (rs : List Rg) (h6 : rs.length ≤ 6) (hb : ∀ r ∈ rs, -1000 ≤ r.mn ∧ r.mn ≤ r.mx ∧ r.mx ≤ 1000 ∧ r.mx ≤ r.mn + 9) (AR : Option Addr) (cR : Nat) (h : AH) (RR : Row h 2 rgC AR rs) :
  FnT Try.prog 8 #[.slice AR rs.length cR] h (fun v h' => LLR h' (chL rs) v) := by
 refine wL Try.func8 rfl Try.ntmps8 rfl ?_
 refine qF ?_
 refine qC rfl ?_
 refine qA (qE (v := .slice _ _ _) rfl) ?_
 refine qF ?_
 refine qC rfl ?_
 refine wG (zc := [_]) (vs := [(0, .slice _ _ _)]) (cs := [_]) rfl rfl rfl rfl rfl rfl rfl fun b8 hb8 => ?_
 refine qH [_] rfl ?_
 refine qA (qE (v := .slice _ _ _) rfl) ?_
 refine qF ?_
 refine qF ?_
 refine qC rfl ?_
 refine qA (qE (v := .int .i64 _) rfl) ?_
 refine qN ?_
 refine zH 0 rfl ?_
 intro g0 F0 P0
 refine zN [3, 4, 5, 6, 7, 9, 10, 11, 12, 13, 14, 15, 16, 17, 18, 19, 20, 21, 22, 23, 24, 25, 26, 27, 28, 29, 30, 31, 32, 33, 34, 35, 36, 37, 38, 39, 40, 41, 42, 43, 44, 45, 46] 1 (α := Nat × Option Addr × Nat × List Value × List (List Int)) (fun ⟨i, A, c, vs, out⟩ => [(4, .int .i64 i), (3, .slice A out.length c)]) (fun ⟨i, A, c, vs, out⟩ => _) (fun ⟨i, A, c, vs, out⟩ h_i => i ≤ rs.length ∧ Row h_i 1 fnC A vs ∧ LLv h_i out vs ∧ out = (rs.take i).foldl chS [[]]) (fun ⟨i, A, c, vs, out⟩ => rs.length - i) ((0, some ⟨b8, 0, none⟩, 1, [.slice none 0 0], [[]])) ⟨rfl, rfl, trivial⟩ (rfl) (⟨Nat.zero_le _, rowFn P0, ⟨rfl, fun i l v a b => by match i with | 0 => simp at a b; subst a b; exact slr1_nil | i + 1 => simp at a⟩, rfl⟩) ?_
 rintro ⟨i, A, c, vs, out⟩ T1 h_i E_i J_i
 refine qP [_] rfl ?_
 obtain ⟨K1, KV, KL, hout⟩ := J_i
 refine qF ?_
 refine qF ?_
 refine qC rfl ?_
 refine qA (qB (v := .int .i64 _) rfl) ?_
 refine qA (qB (v := .slice _ _ _) rfl) ?_
 refine qA (wV rfl rfl) ?_
 refine qA (qK (v := .bool _) rfl) ?_
 refine wA rfl (fun hi => ?_) (fun hi => ?_)
 ·skip
  have hil : i < rs.length := ltI hi
  obtain ⟨hr1, hr2, hr3, hr4⟩ := hb _ (List.getElem_mem hil)
  have hol : out.length ≤ 10 ^ i := by rw [hout]; exact ch_small h6 (fun r hr => (hb r hr).2.2.2) i (by omega)
  have hol5 : out.length ≤ 100000 := Nat.le_trans hol (Nat.le_trans (Nat.pow_le_pow_right (by omega) (show i ≤ 5 by omega)) (by decide))
  have hlen : ∀ x ∈ out, x.length = i := fun x hx => ch_lens i (by omega) (by rw [← hout]; exact hx)
  have hvl := KL.1
  obtain ⟨g, off, hB, hc⟩ := RR.at (by omega) hil
  refine goes_more ?_
  refine qP [_, _] rfl ?_
  refine qT ?_
  refine qF ?_
  refine qN ?_
  refine qF ?_
  refine qC rfl ?_
  refine qA (qE (v := .slice _ _ _) rfl) ?_
  refine qF ?_
  refine qF ?_
  refine qC rfl ?_
  refine qA (qE (v := .int .i64 _) rfl) ?_
  refine qN ?_
  refine xp_loopL [5, 6, 7, 15, 16, 17, 18, 19, 20, 21, 22, 23, 24, 25, 26, 27, 28, 29, 30, 31, 32, 33, 34, 35, 36, 37, 38, 39, 40, 41, 42, 43, 44, 45] 2 (α := Nat × Acc × List Value) (fun ⟨k, a, ws⟩ => [(6, .int .i64 k), (5, .slice a.A a.n a.c)]) (fun ⟨k, a, ws⟩ L => L.set 1 (a.p)) (fun ⟨k, a, ws⟩ h_k => k ≤ out.length ∧ AccR 22 1 ws a ∧ LLv h_k (chK out rs[i] k) ws) (fun ⟨k, a, ws⟩ => out.length - k) ((0, acc0, [])) ⟨rfl, rfl, trivial⟩ (rfl) (⟨Nat.zero_le _, accR0, LLv.nil⟩) ?_
  rintro ⟨k, a, ws⟩ T2 h_k E_k J_k
  refine qP [_, _] rfl ?_
  obtain ⟨J1, JA, JL⟩ := J_k
  refine qF ?_
  refine qF ?_
  refine qC rfl ?_
  refine qA (qB (v := .int .i64 _) rfl) ?_
  refine qA (qB (v := .slice _ _ _) rfl) ?_
  refine qA (wV rfl rfl) ?_
  refine qA (qK (v := .bool _) rfl) ?_
  refine wA rfl (fun hk => ?_) (fun hk => ?_)
  ·skip
   have hkl : k < out.length := ltI hk
   have hxl := hlen _ (List.getElem_mem hkl)
   obtain ⟨gV, oV, hV, cV⟩ := KV.at (by omega) (show k < vs.length by omega)
   obtain ⟨Ax, cx, ex, RX⟩ := KL.2 k _ _ (List.getElem?_eq_getElem hkl) (List.getElem?_eq_getElem (show k < vs.length by omega))
   rw [ex] at cV
   refine qT ?_
   refine qF ?_
   refine qN ?_
   refine qF ?_
   refine qC rfl ?_
   refine qA (qB (v := .slice _ _ _) rfl) ?_
   refine qA (qB (v := .int .i64 _) rfl) ?_
   refine qA (wM rfl hB rfl rfl rfl (by omega) (by omega)) ?_
   refine qA (qG rfl rfl rfl rfl _ rfl) ?_
   refine qV (v := .int .i64 _) rfl rfl ((hc.ext (zP (zP F0 E_i) E_k)) 0 (.int .i64 rs[i].mn) rfl) ?_
   refine qA (qE (v := .int .i64 _) rfl) ?_
   refine qN ?_
   refine xp_loopL [5, 7, 26, 27, 28, 29, 30, 31, 32, 33, 34, 35, 36, 37, 38, 39, 40, 41, 42, 43, 44, 45] 2 (α := Int × Acc × List Value) (fun ⟨n, a, ws⟩ => [(7, .int .i64 n), (5, .slice a.A a.n a.c)]) (fun ⟨n, a, ws⟩ L => L.set 1 (a.p)) (fun ⟨n, a, ws⟩ h_n => (rs[i].mn ≤ n ∧ n ≤ rs[i].mx + 1) ∧ AccR 22 1 ws a ∧ LLv h_n (chK out rs[i] k ++ chN out[k] rs[i] n) ws) (fun ⟨n, a, ws⟩ => (rs[i].mx + 1 - n).toNat) ((rs[i].mn, a, ws)) ⟨rfl, rfl, trivial⟩ (rfl) (⟨⟨by omega, by omega⟩, JA, by unfold chN; rw [rangeI_nil (by omega), List.map_nil, List.append_nil]; exact JL⟩) ?_
   rintro ⟨n, a, ws⟩ T3 h_n E_n J_n
   refine qP [_, _] rfl ?_
   obtain ⟨⟨N1, N2⟩, NA, NL⟩ := J_n
   have hkl5 : (chK out rs[i] k).length ≤ 1000000 := by
    have q1 := flatMap_len (fun x : List Int => (rangeI rs[i].mn (rs[i].mx + 1)).map fun n => x ++ [n]) 10 (out.take k) fun x _ => by rw [List.length_map, rangeI_len]; omega
    rw [List.length_take] at q1
    unfold chK chS
    omega
   have hnl5 : (chN out[k] rs[i] n).length ≤ 10 := by unfold chN; rw [List.length_map, rangeI_len]; omega
   have hwl := NL.1
   rw [List.length_append] at hwl
   refine qF ?_
   refine qF ?_
   refine qC rfl ?_
   refine qA (qB (v := .int .i64 _) rfl) ?_
   refine qA (qB (v := .slice _ _ _) rfl) ?_
   refine qA (qB (v := .int .i64 _) rfl) ?_
   refine qA (wM rfl hB rfl rfl rfl (by omega) (by omega)) ?_
   refine qA (qG rfl rfl rfl rfl _ rfl) ?_
   refine qV (v := .int .i64 _) rfl rfl ((hc.ext (zP (zP (zP F0 E_i) E_k) E_n)) 1 (.int .i64 rs[i].mx) rfl) ?_
   refine qA (qK (v := .bool _) rfl) ?_
   refine wA rfl (fun hn => ?_) (fun hn => ?_)
   ·skip
    have hn1 : n ≤ rs[i].mx := of_decide_eq_true hn
    refine qT ?_
    refine qF ?_
    refine qN ?_
    refine qC rfl ?_
    refine qA (qB (v := .slice _ _ _) rfl) ?_
    refine qA (qB (v := .slice _ _ _) rfl) ?_
    refine qA (qB (v := .int .i64 _) rfl) ?_
    refine qA (wM rfl hV rfl rfl rfl (by omega) (by omega)) ?_
    refine qV (v := .slice _ _ _) rfl rfl ((cV.ext (zP E_k E_n)) 0 _ rfl) ?_
    refine zL [_, _] [] [] rfl rfl rfl (ints_ok out[k] (by omega) Ax cx h_n (RX.ext (zP E_k E_n))) ?_
    rintro _ h5 _ E5 ⟨a5, rfl, rfl, ha5⟩
    refine qH [_, _, _] rfl ?_
    refine qA (qB (v := .int .i64 _) rfl) ?_
    refine wG (zc := [_]) (vs := [(0, .int .i64 _)]) (cs := [_]) rfl rfl rfl rfl rfl rfl rfl fun b42 hb42 => ?_
    refine qH [_, _, _, _] rfl ?_
    refine zK 2 ha5 rfl rfl rfl (fun V => rdP V (i := 3) rfl) rfl rfl rfl rfl rfl rfl rfl rfl rfl (by omega) rfl (by rw [wS (m := 1) (fun _ _ => rfl)]; simp; omega) fun a6 h4a E4a ha6 => ?_
    refine qH [_, _, _, _] rfl ?_
    obtain ⟨bN, lenN, capN, junkN, hlN, rfl⟩ := AccR.some ha6 (by simp)
    have eN : lenN = (out[k] ++ [n]).length := by rw [List.length_append, wS (fun _ _ => rfl) (m := 1)] at hlN; simp at hlN ⊢; omega
    subst eN
    dsimp only
    refine wp_pub 2 rfl rfl ?_
    intro g F PN
    refine qH [_, _, _, _] rfl ?_
    have SN : SlR g 1 intC (out[k] ++ [n]) (.slice (some ⟨bN, 0, none⟩) (out[k] ++ [n]).length capN) := ⟨_, _, rfl, row_junk (enc := intC) (l := out[k] ++ [n]) intM (by simpa [List.flatMap_append, intC] using PN)⟩
    refine wG (zc := [_]) (vs := [(0, .slice _ _ _)]) (cs := [_]) rfl rfl rfl rfl rfl rfl rfl fun b44 hb44 => ?_
    refine qH [_, _, _, _, _] rfl ?_
    refine zK 1 NA rfl rfl rfl (fun V => rdP V (i := 4) rfl) rfl rfl rfl rfl rfl rfl rfl rfl rfl (by omega) rfl (by simp; omega) fun a7 h5a E5a ha7 => ?_
    refine qH [_, _, _, _, _] rfl ?_
    refine qA (qE (v := .slice _ _ _) rfl) ?_
    refine qC rfl ?_
    refine qA (qB (v := .int .i64 _) rfl) ?_
    refine qA (qO rfl (by omega)) ?_
    refine qA (qE (v := .int .i64 _) rfl) ?_
    refine ⟨(n + 1, a7, ws ++ [.slice (some ⟨bN, 0, none⟩) (out[k] ++ [n]).length capN]), ⟨rfl, rfl, trivial⟩, rfl, rfl, (zP (zP (zP (zP E_n E5) E4a) F) E5a), fun h3 E3 => ⟨⟨by omega, by omega⟩, ha7, by rw [chN_succ N1, ← List.append_assoc]; exact ((NL.ext (zP (zP (zP E5 E4a) F) E5a)).snoc (SN.ext E5a)).ext E3⟩, by first | omega | (dsimp only; omega), ?_⟩
    repeat (first | exact qU _ _ _ | refine wB (by decide) ?_ | refine qS rfl ?_ | refine wN rfl ?_)
   ·skip
    have hne : n = rs[i].mx + 1 := by have := of_decide_eq_false hn; omega
    subst hne
    refine wU ?_
    refine qC rfl ?_
    refine qA (qB (v := .int .i64 _) rfl) ?_
    refine qA (qO rfl (by omega)) ?_
    refine qA (qE (v := .int .i64 _) rfl) ?_
    refine ⟨(k + 1, a, ws), ⟨rfl, rfl, trivial⟩, rfl, rfl, (zP E_k E_n), fun h3 E3 => ⟨hkl, NA, by rw [chK_succ hkl]; exact NL.ext E3⟩, by first | omega | (dsimp only; omega), ?_⟩
    repeat (first | exact qU _ _ _ | refine wB (by decide) ?_ | refine qS rfl ?_ | refine wN rfl ?_)
  ·skip
   have hke : k = out.length := by have := geI hk; omega
   subst hke
   obtain ⟨pO, AO, nO, cO⟩ := a
   have hch : chK out rs[i] out.length = (rs.take (i + 1)).foldl chS [[]] := by
    rw [List.take_succ_eq_append_getElem hil, List.foldl_append, ← hout]
    unfold chK
    rw [List.take_length]
    rfl
   obtain rfl : nO = (chK out rs[i] out.length).length := by have := AccR.len JA; have := JL.1; dsimp only at *; omega
   dsimp only
   refine goes_pubO 1 rfl ?_
   intro g G P
   refine qP [_, _] rfl ?_
   refine wU ?_
   refine qC rfl ?_
   refine qA (qB (v := .slice _ _ _) rfl) ?_
   refine qA (qE (v := .slice _ _ _) rfl) ?_
   refine qC rfl ?_
   refine qA (qB (v := .int .i64 _) rfl) ?_
   refine qA (qO rfl (by omega)) ?_
   refine qA (qE (v := .int .i64 _) rfl) ?_
   refine ⟨(i + 1, AO, cO, ws, chK out rs[i] out.length), ⟨rfl, rfl, trivial⟩, rfl, rfl, (zP (zP E_i E_k) G), fun h3 E3 => ⟨hil, ⟨fun _ _ => rfl, by rw [flat_fn]; exact (AccR.rd JA P).ext E3⟩, (JL.ext (zP G E3)), hch⟩, by first | omega | (dsimp only; omega), ?_⟩
   repeat (first | exact qU _ _ _ | refine wB (by decide) ?_ | refine qS rfl ?_ | refine wN rfl ?_)
 ·skip
  have hie : i = rs.length := by have := geI hi; omega
  subst hie
  rw [List.take_length] at hout
  subst hout
  refine wU ?_
  refine qF ?_
  refine qC rfl ?_
  refine qA (qB (v := .slice _ _ _) rfl) ?_
  refine qA (qE (v := .slice _ _ _) rfl) ?_
  refine wK ?_
  refine qW (vs := [_]) Try.results8 ⟨qR rfl rfl, trivial⟩ fun V => ?_
  exact ⟨(zP (zP F0 E_i) (wE V)), A, c, vs, rfl, KV.ext (wE V), KL.ext (wE V)⟩
end
end Go.Proofs.Ytgjcepdhclmglaa
namespace Go.Proofs.Ytgjcepdhclmglaa
open Go Go.HL Go.Proofs Go.Wx
variable [Lvl]
set_option maxRecDepth 100000
end Go.Proofs.Ytgjcepdhclmglaa
namespace Go.Proofs.Ytgjcepdhclmglaa
open Go Go.HL Go.Proofs Go.Wx Go.RowKit
variable [Lvl]
set_option maxRecDepth 100000
end Go.Proofs.Ytgjcepdhclmglaa
namespace Go.Proofs.Ytgjcepdhclmglaa
open Go Go.HL Go.Proofs Go.Wx
section
variable [Lvl]
def bB (l : List Bool) : List Value := l.map Value.bool
theorem bB_len (l : List Bool) : (bB l).length = l.length := List.length_map ..
theorem bB_flat (l : List Bool) : l.flatMap booC = bB l := by unfold bB booC; rw [List.map_eq_flatMap]
theorem bB_at {l : List Bool} {q : Nat} {v : Bool} (hq : l[q]? = some v) : (bB l).toArray[0 + (q : Int).toNat * 1]? = some (.bool v) := by
 rw [List.getElem?_toArray, show 0 + (q : Int).toNat * 1 = q from by omega]
 unfold bB
 rw [List.getElem?_map, hq]
 rfl
theorem wrL_one : ∀ (c : List Value) (o : Nat) (v : Value), wrL c o [v] = c.set o v := fun c o v => rfl
theorem bB_set {l : List Bool} {q : Nat} {v : Bool} : wrL (bB l) (0 + (q : Int).toNat * 1) [.bool v] = bB (l.set q v) := by
 rw [show 0 + (q : Int).toNat * 1 = q from by omega, wrL_one]
 unfold bB
 rw [List.map_set]
theorem row_bB {h : AH} {b : Nat} {l : List Bool} {t : TypeId} (e : h b = some (.cells (bB l).toArray t (0, 0))) : Row h 1 booC (some ⟨b, 0, none⟩) l := row_blk (enc := booC) (fun _ _ => rfl) (by rw [bB_flat]; exact e)
theorem bB_new (n : Nat) (zc : List Value) (hz : zc = [.bool false]) : ((List.range (n * 1)).map fun i => zc[i % zc.length]!) = bB ((List.range n).map fun _ => false) := by
 subst hz
 unfold bB
 rw [Nat.mul_one, List.map_map]
 apply List.map_congr_left
 intro i _
 simp [Nat.mod_one]
def mixL {α : Type} (f g : Nat → α) (n k : Nat) : List α := (List.range n).map fun i => if i < k then f i else g i
theorem zG {α : Type} (f g : Nat → α) (n k : Nat) : (mixL f g n k).length = n := by simp [mixL]
theorem mixL_zero {α : Type} (f g : Nat → α) (n : Nat) : mixL f g n 0 = (List.range n).map g := by simp [mixL]
theorem mixL_all {α : Type} (f g : Nat → α) {n k : Nat} (h : ∀ i, i < n → k ≤ i → f i = g i) : mixL f g n k = (List.range n).map f := by
 unfold mixL
 apply List.map_congr_left
 intro i hi
 have hi := List.mem_range.1 hi
 by_cases h1 : i < k
 ·rw [if_pos h1]
 ·rw [if_neg h1, h i hi (by omega)]
theorem mixL_at {α : Type} (f g : Nat → α) {n k : Nat} (h : k < n) : (mixL f g n k)[k]? = some (g k) := by
 unfold mixL
 rw [List.getElem?_map, List.getElem?_range h]
 simp
theorem zJ {α : Type} (f g : Nat → α) {n k : Nat} {v : α} (hv : v = f k) : (mixL f g n k).set k v = mixL f g n (k + 1) := by
 subst hv
 apply List.ext_getElem?
 intro i
 unfold mixL
 rw [List.getElem?_set, List.length_map, List.length_range, List.getElem?_map, List.getElem?_map]
 by_cases hi : i < n
 ·rw [List.getElem?_range hi]
  by_cases hk : k = i
  ·subst hk; rw [if_pos rfl, if_pos hi]; simp
  ·rw [if_neg hk]
   have : (i < k + 1) = (i < k) := by apply propext; omega
   simp [this]
 ·have e : (List.range n)[i]? = none := List.getElem?_eq_none (by rw [List.length_range]; omega)
  rw [e]
  by_cases hk : k = i
  ·rw [if_pos hk, if_neg (by omega)]; rfl
  ·rw [if_neg hk]; rfl
def lowR (n : Nat) (l : List Sky) : List Rg := (List.range n).map (weekR l)
theorem lowR_len (n : Nat) (l : List Sky) : (lowR n l).length = n := by simp [lowR]
def stepR (r : Rg) (v : Int) : Rg := ⟨min r.mn v, max r.mx v⟩
theorem week_one (x : Sky) (w : Nat) : weekR [x] w = ⟨x.at w, x.at w⟩ := by
 unfold weekR loK hiK
 simp
theorem week_snoc {l : List Sky} (hl : l ≠ []) (x : Sky) (w : Nat) : weekR (l ++ [x]) w = stepR (weekR l w) (x.at w) := by
 cases l with
 | nil => exact absurd rfl hl
 | cons a l =>
  unfold weekR loK hiK stepR
  rw [List.take_length, List.take_length, List.foldl_append, List.foldl_append]
  rfl
def baseL (l : List Sky) (x : Sky) : List Sky := if l = [] then [x] else l
theorem base_step (l : List Sky) (x : Sky) (w : Nat) : stepR (weekR (baseL l x) w) (x.at w) = weekR (l ++ [x]) w := by
 unfold baseL
 by_cases hl : l = []
 ·subst hl
  rw [if_pos rfl, week_one, List.nil_append, week_one]
  unfold stepR
  simp
 ·rw [if_neg hl, week_snoc hl]
def lowS (L : List Tru) : List Sky := L.map fun t => skyOf t.x
def highS (L : List Tru) : List Sky := L.map fun t => skyOf t.y
theorem lowS_snoc (L : List Tru) (t : Tru) : lowS (L ++ [t]) = lowS L ++ [skyOf t.x] := by simp [lowS]
theorem highS_snoc (L : List Tru) (t : Tru) : highS (L ++ [t]) = highS L ++ [skyOf t.y] := by simp [highS]
def AccL (n : Nat) (e : TypeId) (L : List Tru) (l : List Rg) (a : Acc) : Prop := (L = [] ∧ a = acc0) ∨ (L ≠ [] ∧ ∃ b, a = ⟨some (b, .cells (l.flatMap rgC).toArray e (0, 0)), some ⟨b, 0, none⟩, n, n⟩)
def metF (s : Season) (j : Nat) (L : List Tru) (w : Nat) : Bool := decide (j < s.joints.length) && L.any fun t => decide ((flT s t j).week = w)
def caF (s : Season) (j : Nat) (L : List Tru) (k : Nat) : Bool := decide (j < s.joints.length) && L.any fun t => (flT s t j).causes.testBit k
def cdF (s : Season) (j : Nat) (L : List Tru) (k : Nat) : Bool := decide (j < s.joints.length) && L.any fun t => !(flT s t j).causes.testBit k
def fiF (s : Season) (L : List Tru) (j : Nat) : Bool := decide (j < s.joints.length) && L.any fun t => fstT s t j
def laF (s : Season) (L : List Tru) (j : Nat) : Bool := decide (j < s.joints.length) && L.any fun t => !fstT s t j
def metB (s : Season) (j : Nat) (L : List Tru) : List Bool := (List.range (s.heats.length + 1)).map (metF s j L)
def caB (s : Season) (j : Nat) (L : List Tru) : List Bool := (List.range 3).map (caF s j L)
def cdB (s : Season) (j : Nat) (L : List Tru) : List Bool := (List.range 3).map (cdF s j L)
def fiB (s : Season) (L : List Tru) : List Bool := (List.range 2).map (fiF s L)
def laB (s : Season) (L : List Tru) : List Bool := (List.range 2).map (laF s L)
theorem metB_nil (s : Season) (j : Nat) : metB s j [] = (List.range (s.heats.length + 1)).map fun _ => false := by unfold metB metF; simp
theorem caB_nil (s : Season) (j : Nat) : caB s j [] = (List.range 3).map fun _ => false := by unfold caB caF; simp
theorem cdB_nil (s : Season) (j : Nat) : cdB s j [] = (List.range 3).map fun _ => false := by unfold cdB cdF; simp
theorem fiB_nil (s : Season) : fiB s [] = (List.range 2).map fun _ => false := by unfold fiB fiF; simp
theorem laB_nil (s : Season) : laB s [] = (List.range 2).map fun _ => false := by unfold laB laF; simp
theorem fl_week (s : Season) (t : Tru) (j : Nat) : (flT s t j).week ≤ s.heats.length := weekM_le ..
theorem metB_len (s : Season) (j : Nat) (L : List Tru) : (metB s j L).length = s.heats.length + 1 := by simp [metB]
theorem metB_snoc {s : Season} {j : Nat} (hj : j < s.joints.length) (L : List Tru) (t : Tru) : (metB s j L).set (flT s t j).week true = metB s j (L ++ [t]) := by
 apply List.ext_getElem?
 intro i
 unfold metB
 rw [List.getElem?_set, List.length_map, List.length_range, List.getElem?_map, List.getElem?_map]
 have hle := fl_week s t j
 by_cases hi : i < s.heats.length + 1
 ·rw [List.getElem?_range hi]
  simp only [Option.map_some]
  unfold metF
  rw [List.any_append, decide_eq_true hj]
  by_cases hk : (flT s t j).week = i
  ·rw [if_pos hk, if_pos (by omega)]; simp [hk]
  ·rw [if_neg hk]; simp [hk]
 ·rw [List.getElem?_eq_none (by rw [List.length_range]; omega), if_neg (by omega)]; rfl
theorem met_end {s : Season} (i : Nat) (L L' : List Tru) : metB s i (if i < s.joints.length then L' else L) = metB s i L' := by
 by_cases h : i < s.joints.length
 ·rw [if_pos h]
 ·rw [if_neg h]; unfold metB metF; simp [h]
theorem ca_end {s : Season} (i : Nat) (L L' : List Tru) : caB s i (if i < s.joints.length then L' else L) = caB s i L' := by
 by_cases h : i < s.joints.length
 ·rw [if_pos h]
 ·rw [if_neg h]; unfold caB caF; simp [h]
theorem cd_end {s : Season} (i : Nat) (L L' : List Tru) : cdB s i (if i < s.joints.length then L' else L) = cdB s i L' := by
 by_cases h : i < s.joints.length
 ·rw [if_pos h]
 ·rw [if_neg h]; unfold cdB cdF; simp [h]
theorem fi_end {s : Season} (L L' : List Tru) : mixL (fiF s L') (fiF s L) 2 s.joints.length = fiB s L' := mixL_all _ _ fun i _ h => by unfold fiF; rw [decide_eq_false (by omega)]; rfl
theorem la_end {s : Season} (L L' : List Tru) : mixL (laF s L') (laF s L) 2 s.joints.length = laB s L' := mixL_all _ _ fun i _ h => by unfold laF; rw [decide_eq_false (by omega)]; rfl
section
variable {s : Season} {j : Nat} (hj : j < s.joints.length) (L : List Tru) (t : Tru)
include hj
theorem ca_or (k : Nat) : (caF s j L k || (flT s t j).causes.testBit k) = caF s j (L ++ [t]) k := by unfold caF; rw [List.any_append, decide_eq_true hj]; simp
theorem cd_or (k : Nat) : (cdF s j L k || !(flT s t j).causes.testBit k) = cdF s j (L ++ [t]) k := by unfold cdF; rw [List.any_append, decide_eq_true hj]; simp
theorem fi_or : (fiF s L j || fstT s t j) = fiF s (L ++ [t]) j := by unfold fiF; rw [List.any_append, decide_eq_true hj]; simp
theorem la_or : (laF s L j || !fstT s t j) = laF s (L ++ [t]) j := by unfold laF; rw [List.any_append, decide_eq_true hj]; simp
end
def fstK (s : Season) (t : Tru) (j o : Nat) : Bool := decide (((flT s t j).week : Int) ≤ (s.heats.length : Int) - 1) && (List.range o).all fun i => decide ((flT s t i).week ≥ (flT s t j).week)
theorem fstK_succ (s : Season) (t : Tru) (j o : Nat) : fstK s t j (o + 1) = (fstK s t j o && decide ((flT s t o).week ≥ (flT s t j).week)) := by
 unfold fstK; rw [List.range_succ, List.all_append, ← Bool.and_assoc]; simp
theorem snd_snoc (s : Season) (w : Int) (L : List Tru) (t : Tru) : soundT' s w (L ++ [t]) = ⟨min (soundT' s w L).mn (cntT s t w s.joints.length), max (soundT' s w L).mx (cntT s t w s.joints.length)⟩ := by
 unfold soundT'; rw [List.foldl_append, List.foldl_append]; rfl
def dueL (s : Season) (j : Nat) (L : List Tru) (k : Nat) : List Int := ((List.range k).filter (metF s j L)).map fun w : Nat => (w : Int)
def befB (s : Season) (j : Nat) (L : List Tru) (w : Int) (k : Nat) : Bool := (List.range k).any fun v => metF s j L v && decide ((v : Int) ≤ w)
def aftB (s : Season) (j : Nat) (L : List Tru) (w : Int) (k : Nat) : Bool := (List.range k).any fun v => metF s j L v && decide ((v : Int) > w)
theorem dueL_succ (s : Season) (j : Nat) (L : List Tru) (k : Nat) : dueL s j L (k + 1) = if metF s j L k = true then dueL s j L k ++ [(k : Int)] else dueL s j L k := by
 unfold dueL
 rw [List.range_succ, List.filter_append]
 by_cases h : metF s j L k = true
 ·simp [h]
 ·simp [h]
theorem befB_succ (s : Season) (j : Nat) (L : List Tru) (w : Int) (k : Nat) : befB s j L w (k + 1) = (befB s j L w k || (metF s j L k && decide ((k : Int) ≤ w))) := by unfold befB; rw [List.range_succ, List.any_append]; simp
theorem aftB_succ (s : Season) (j : Nat) (L : List Tru) (w : Int) (k : Nat) : aftB s j L w (k + 1) = (aftB s j L w k || (metF s j L k && decide ((k : Int) > w))) := by unfold aftB; rw [List.range_succ, List.any_append]; simp
theorem dueL_len (s : Season) (j : Nat) (L : List Tru) (k : Nat) : (dueL s j L k).length ≤ k := by
 unfold dueL
 rw [List.length_map]
 exact Nat.le_trans (List.length_filter_le _ _) (by simp)
section
variable {s : Season} (c : CheckS s) (j2 : s.joints.length ≤ 2)
include c j2
theorem all_none (h : goodT s = []) {w : Nat} (hw : w < s.heats.length) : weatherE s 1 = 9 ∧ weatherE s 2 = 9 ∧ firstE s = 9 ∧ soundE s (w : Int) = 9 ∧ weatherL s 1 = [] ∧ weatherL s 2 = [] ∧ firstL s = [] := by
 have SV := checkM_zero c.ok
 have m : mayM s = false := by rw [← good_some SV j2, h]; rfl
 have k : ∀ es : List Int, (∀ e ∈ es, e = 0) → knownM s es = 9 := fun es he => by
  unfold knownM
  rw [c.ok, if_neg (by simp), firstErr_all (f := id) he, if_neg (by simp), m]
  rfl
 have k1 : weatherE s 1 = 9 := k _ (by decide)
 have k2 : weatherE s 2 = 9 := k _ (by decide)
 have k3 : firstE s = 9 := k _ (by simp)
 have hw0 : isWeekM s (w : Int) = 0 := by unfold isWeekM inM; rw [if_pos (by simp; omega)]
 refine ⟨k1, k2, k3, k _ (by simp [hw0]), ?_, ?_, ?_⟩
 ·unfold weatherL; rw [k1]; rfl
 ·unfold weatherL; rw [k2]; rfl
 ·unfold firstL; rw [k3]; rfl
variable (hne : goodT s ≠ [])
include hne
theorem all_some {w : Nat} (hw : w < s.heats.length) : weatherE s 1 = 0 ∧ weatherE s 2 = 0 ∧ firstE s = 0 ∧ soundE s (w : Int) = 0 ∧ weatherL s 1 = lowR s.heats.length (lowS (goodT s)) ∧ weatherL s 2 = lowR s.heats.length (highS (goodT s)) ∧ firstL s = (List.range s.joints.length).map (firstM s) ∧ soundV s (w : Int) = soundT' s (w : Int) (goodT s) := by
 have SV := checkM_zero c.ok
 have m : mayM s = true := by rw [← good_some SV j2]; exact decide_eq_true hne
 have k1 : weatherE s 1 = 0 := known_of c m (by decide)
 have k2 : weatherE s 2 = 0 := known_of c m (by decide)
 have k3 : firstE s = 0 := known_of c m (by simp)
 have hw0 : isWeekM s (w : Int) = 0 := by unfold isWeekM inM; rw [if_pos (by simp; omega)]
 have k4 : soundE s (w : Int) = 0 := known_of c m (by simp [hw0])
 refine ⟨k1, k2, k3, k4, ?_, ?_, ?_, ?_⟩
 ·unfold weatherL lowR lowS
  rw [if_pos k1]
  apply List.map_congr_left
  intro v _
  exact (good_low SV j2 hne v).1.symm
 ·unfold weatherL lowR highS
  rw [if_pos k2]
  apply List.map_congr_left
  intro v _
  exact (good_low SV j2 hne v).2.symm
 ·unfold firstL; rw [if_pos k3]
 ·unfold soundV; rw [if_pos k4, good_sound SV j2 hne hw]; rfl
theorem met_eq {j : Nat} (hj : j < s.joints.length) (v : Nat) : metF s j (goodT s) v = (failsM s j).testBit v := by
 have SV := checkM_zero c.ok
 unfold metF
 rw [decide_eq_true hj, Bool.true_and, good_any SV j2 hne hj (fun y => decide (y.week = v)), fails_any]
 congr 1
 funext y
 rw [Bool.eq_iff_iff, decide_eq_true_eq, decide_eq_true_eq]
 omega
theorem joint_some {j w : Nat} (hj : j < s.joints.length) (hw : w < s.heats.length) : failsE s (j : Int) = 0 ∧ failedE s (j : Int) (w : Int) = 0 ∧ failsL s (j : Int) = dueL s j (goodT s) (s.heats.length + 1)
  ∧ failedV s (j : Int) (w : Int) = verdictM (befB s j (goodT s) w (s.heats.length + 1)) (aftB s j (goodT s) w (s.heats.length + 1))
  ∧ causesL s (j : Int) = (List.range 3).map (fun k => verdictM (caF s j (goodT s) k) (cdF s j (goodT s) k)) ∧ firstM s j = verdictM (fiF s (goodT s) j) (laF s (goodT s) j) := by
 have SV := checkM_zero c.ok
 have m : mayM s = true := by rw [← good_some SV j2]; exact decide_eq_true hne
 have hw0 : isWeekM s (w : Int) = 0 := by unfold isWeekM inM; rw [if_pos (by simp; omega)]
 have hj0 : isJointM s (j : Int) = 0 := by unfold isJointM inM; rw [if_pos (by simp; omega)]
 have k1 : failsE s (j : Int) = 0 := known_of c m (by simp [hj0])
 have k2 : failedE s (j : Int) (w : Int) = 0 := known_of c m (by simp [hj0, hw0])
 refine ⟨k1, k2, ?_, ?_, ?_, ?_⟩
 ·unfold failsL
  rw [if_pos k1, Int.toNat_natCast, ← fails_list c.w6]
  unfold listN dueL
  congr 1
  apply List.filter_congr
  intro v _
  exact (met_eq c j2 hne hj v).symm
 ·unfold failedV
  rw [if_pos k2, Int.toNat_natCast, Int.toNat_natCast, failed_any]
  congr 1
  ·rw [← good_any SV j2 hne hj (fun y => decide ((y.week : Int) ≤ (w : Int))), Bool.eq_iff_iff]
   unfold befB metF
   rw [List.any_eq_true, List.any_eq_true]
   constructor
   ·rintro ⟨t, ht, h⟩
    refine ⟨(flT s t j).week, List.mem_range.2 (by have := fl_week s t j; omega), ?_⟩
    rw [Bool.and_eq_true]
    refine ⟨?_, h⟩
    rw [decide_eq_true hj, Bool.true_and, List.any_eq_true]
    exact ⟨t, ht, by simp⟩
   ·rintro ⟨v, _, h⟩
    rw [Bool.and_eq_true, Bool.and_eq_true, List.any_eq_true] at h
    obtain ⟨⟨_, t, ht, e⟩, h⟩ := h
    rw [decide_eq_true_eq] at e
    exact ⟨t, ht, by rw [e]; exact h⟩
  ·rw [← good_any SV j2 hne hj (fun y => decide ((y.week : Int) > (w : Int))), Bool.eq_iff_iff]
   unfold aftB metF
   rw [List.any_eq_true, List.any_eq_true]
   constructor
   ·rintro ⟨t, ht, h⟩
    refine ⟨(flT s t j).week, List.mem_range.2 (by have := fl_week s t j; omega), ?_⟩
    rw [Bool.and_eq_true]
    refine ⟨?_, h⟩
    rw [decide_eq_true hj, Bool.true_and, List.any_eq_true]
    exact ⟨t, ht, by simp⟩
   ·rintro ⟨v, _, h⟩
    rw [Bool.and_eq_true, Bool.and_eq_true, List.any_eq_true] at h
    obtain ⟨⟨_, t, ht, e⟩, h⟩ := h
    rw [decide_eq_true_eq] at e
    exact ⟨t, ht, by rw [e]; exact h⟩
 ·unfold causesL
  rw [if_pos k1, Int.toNat_natCast]
  apply List.map_congr_left
  intro k _
  unfold causeM caF cdF
  rw [decide_eq_true hj, Bool.true_and, Bool.true_and, good_any SV j2 hne hj (fun y => y.causes.testBit k), good_any SV j2 hne hj (fun y => !y.causes.testBit k)]
 ·unfold firstM fiF laF
  rw [decide_eq_true hj, Bool.true_and, Bool.true_and, good_first SV j2 hj, good_last SV j2 hj]
end
theorem take_snocF {α β : Type} {l : List α} {k : Nat} (h : k < l.length) (g : α → List β) : (l.take (k + 1)).flatMap g = (l.take k).flatMap g ++ g l[k] := by
 rw [List.take_succ_eq_append_getElem h, List.flatMap_append]; simp
theorem take_snocM {α β : Type} {l : List α} {k : Nat} (h : k < l.length) (g : α → β) : (l.take (k + 1)).map g = (l.take k).map g ++ [g l[k]] := by
 rw [List.take_succ_eq_append_getElem h, List.map_append]; rfl
theorem llr_nil {h : AH} {b : Nat} {t : TypeId} (e : h b = some (.cells #[.slice none 0 0] t (0, 0))) : LLR h [[]] (.slice (some ⟨b, 0, none⟩) 1 1) :=
 ⟨_, _, [.slice none 0 0], rfl, rowFn e, rfl, fun i l v a b => by match i with | 0 => simp at a b; subst a b; exact slr1_nil | i + 1 => simp at a⟩
theorem LLR.ext {h h' : AH} {ls : List (List Int)} {v : Value} (x : LLR h ls v) (E : Ext h h') : LLR h' ls v := by
 obtain ⟨A, c, vs, e, r, k⟩ := x
 exact ⟨A, c, vs, e, r.ext E, k.ext E⟩
def gC (t : Season) (x y c : List Int) : List Tru := (ownL t 1).map fun d => ⟨x, y, c, d⟩
def gY (t : Season) (x y : List Int) : List Tru := (ownL t 0).flatMap (gC t x y)
def gX (t : Season) (x : List Int) : List Tru := (chL t.damps).flatMap (gY t x)
theorem truths_eq (t : Season) : truths t = (chL t.heats).flatMap (gX t) := rfl
theorem lvl_next {α : Type} {l : List α} {k : Nat} (h : k < l.length) {P P' : List Tru} {g : α → List Tru} {x : α} (hP : P' = P ++ (l.take k).flatMap g) (hx : x = l[k]) : P' ++ g x = P ++ (l.take (k + 1)).flatMap g := by
 rw [take_snocF h, hP, hx, List.append_assoc]
theorem fine_snoc {t : Season} {P : List Tru} {u : Tru} (h : fineT t u = true) : (P ++ [u]).filter (fineT t) = P.filter (fineT t) ++ [u] := by
 rw [List.filter_append]; simp [h]
theorem fine_skip {t : Season} {P : List Tru} {u : Tru} (h : fineT t u = false) : (P ++ [u]).filter (fineT t) = P.filter (fineT t) := by
 rw [List.filter_append]; simp [h]
def BLS (h : AH) (l : List Bool) (v : Value) : Prop := SlR h 1 booC l v
theorem BLS.ext {h h' : AH} {l : List Bool} {v : Value} (x : BLS h l v) (E : Ext h h') : BLS h' l v := SlR.ext x E
theorem blx {h h' : AH} {ls : List (List Bool)} {vs : List Value} (x : RLv BLS h ls vs) (E : Ext h h') : RLv BLS h' ls vs := RLv.ext (R := BLS) (fun _ _ _ _ E s => BLS.ext s E) x E
theorem rg_wr0 {x y : Int} {l : List Rg} {k : Nat} (h : k < l.length) : wrL (l.flatMap rgC) (0 + (k : Int).toNat * 2) [.int .i64 x, .int .i64 y] = (l.set k ⟨x, y⟩).flatMap rgC := by
 have := rg_wr (junk := []) (x := x) (y := y) h
 simp only [List.append_nil] at this
 rw [show 0 + (k : Int).toNat * 2 = k * 2 from by omega]
 exact this
theorem rg_mn0 {l : List Rg} {k : Nat} {r : Rg} (h : l[k]? = some r) : (l.flatMap rgC).toArray[0 + (k : Int).toNat * 2 + 0]? = some (.int .i64 r.mn) := by
 have := rg_mn (junk := []) h
 rw [List.append_nil] at this
 rw [List.getElem?_toArray, show 0 + (k : Int).toNat * 2 + 0 = k * 2 from by omega]
 exact this
theorem rg_mx0 {l : List Rg} {k : Nat} {r : Rg} (h : l[k]? = some r) : (l.flatMap rgC).toArray[0 + (k : Int).toNat * 2 + 1]? = some (.int .i64 r.mx) := by
 have := rg_mx (junk := []) h
 rw [List.append_nil] at this
 rw [List.getElem?_toArray, show 0 + (k : Int).toNat * 2 + 1 = k * 2 + 1 from by omega]
 exact this
theorem rg_new (n : Nat) : ((List.range (n * 2)).map fun i => ([.int .i64 0, .int .i64 0] : List Value)[i % ([.int .i64 0, .int .i64 0] : List Value).length]!) = (((List.range n).map fun _ => (⟨0, 0⟩ : Rg)).flatMap rgC) := by
 have e : ∀ i : Nat, ([.int .i64 0, .int .i64 0] : List Value)[i % ([.int .i64 0, .int .i64 0] : List Value).length]! = .int .i64 0 := by
  intro i
  have : i % 2 = 0 ∨ i % 2 = 1 := by omega
  show ([.int .i64 0, .int .i64 0] : List Value)[i % 2]! = _
  rcases this with h | h <;> rw [h] <;> rfl
 simp only [e]
 induction n with
 | zero => rfl
 | succ n ih =>
  rw [show (n + 1) * 2 = n * 2 + 1 + 1 from by omega, List.range_succ, List.range_succ, List.range_succ, List.map_append, List.map_append, List.map_append, List.flatMap_append, ih]
  simp [rgC]
theorem own_small {t : Season} (SV : SeasonV t) (j : Nat) : (ownL t j).length ≤ 10000 := by
 unfold ownL
 split
 ·rename_i x hx
  obtain ⟨q1, q2, q3, q4, q5, q6, q7, q8, q9, qa, qb, qc, qd, qe⟩ := SV.b.jb x (List.mem_of_getElem? hx)
  have := ch_small (rs := [x.high, x.low, x.weeks, x.life]) (by simp) (fun r hr => by
   simp only [List.mem_cons, List.not_mem_nil, or_false] at hr
   rcases hr with rfl | rfl | rfl | rfl <;> omega) 4 (by simp)
  exact this
 ·simp
theorem sky_get {x : List Int} {w : Nat} (h : w < x.length) (h6 : w < 6) : (skyOf x).at w = x[w] := by
 rw [skyOf_at x w h6, List.getD_eq_getElem?_getD, List.getElem?_eq_getElem h]; rfl
theorem week_get {x : List Int} {w : Nat} (h : w < x.length) (h6 : w < 6) : (⟨x[w], x[w]⟩ : Rg) = weekR [skyOf x] w := by rw [week_one, sky_get h h6]
theorem step_get {l : List Sky} {x : List Int} {w : Nat} (h : w < x.length) (h6 : w < 6) : (⟨min (weekR (baseL l (skyOf x)) w).mn x[w], max (weekR (baseL l (skyOf x)) w).mx x[w]⟩ : Rg) = weekR (l ++ [skyOf x]) w := by
 rw [← base_step, sky_get h h6]; rfl
theorem goes_two {P : Program} {n : Nat} {ro : Option Nat} {c : Code} {K : Post} {S : Sl} {D : Df} {L : Pv} {h : AH} (l0 : Pv) (a b : Nat × Obj) (hL : L = l0 ++ [none, none, none, none, some a, some b]) (k : xp P n ro c K S D (l0 ++ [some a, some b, none, none]) h) : xp P n ro c K S D L h := by
 subst hL
 refine goes_turn (fun V => wl_perm (List.Perm.of_eq ?_) V) k
 simp [cl]
def subB : List Nat → List Nat → Bool
 | [], l => l.isEmpty
 | b :: M, l => match l with
  | [] => true
  | a :: l' => match Nat.beq a b with
   | true => subB M l'
   | false => subB M (a :: l')
theorem subB_ok : ∀ {M l : List Nat}, subB M l = true → ∀ i ∈ l, i ∈ M
 | [], l, h, i, hi => by
  cases l with
  | nil => exact hi
  | cons a l => cases h
 | b :: M, [], h, i, hi => by cases hi
 | b :: M, a :: l', h, i, hi => by
  unfold subB at h
  simp only at h
  cases e : Nat.beq a b with
  | true =>
   rw [e] at h
   have hab : a = b := Nat.eq_of_beq_eq_true e
   rcases List.mem_cons.1 hi with h1 | h1
   ·rw [h1, hab]; exact List.mem_cons_self ..
   ·exact List.mem_cons_of_mem _ (subB_ok h i h1)
  | false =>
   rw [e] at h
   exact List.mem_cons_of_mem _ (subB_ok h i hi)
theorem wZ {M M2 : List Nat} {S0 S T : Sl} (hs : subB M M2 = true) (g : Off M S0 S) : Off M S0 (mix M2 T S) := by
 refine wN ?_ g
 rw [List.all_eq_true]
 intro i hi
 exact List.elem_eq_true_of_mem (subB_ok hs i hi)
theorem flB_get (f : Fl) : ∀ k : Nat, k < 3 → ∃ h : k < (flB f).length, (flB f)[k] = f.causes.testBit k
 | 0, _ => ⟨by simp [flB], rfl⟩
 | 1, _ => ⟨by simp [flB], rfl⟩
 | 2, _ => ⟨by simp [flB], rfl⟩
 | k + 3, h => by omega
theorem ge_nat (a b : Nat) : decide ((a : Int) ≥ (b : Int)) = decide (a ≥ b) := by
 rw [Bool.eq_iff_iff, decide_eq_true_eq, decide_eq_true_eq]; omega
end
end Go.Proofs.Ytgjcepdhclmglaa
