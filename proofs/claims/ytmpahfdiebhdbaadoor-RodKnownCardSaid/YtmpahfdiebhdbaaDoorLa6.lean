/- An own logic over the model, its walks and its plain laws, joined of parts R67 R68 R69 R70 Ud R71 R72 Rt R40 R41 R42 R43 R44 R45 R46 R47 R48 R49 R50 R51 R62 V5 V7. Conditions: as each theorem states. -/
import Derived.Test.YtmpahfdiebhdbaaDoorLa5
import Derived.Test.YtmpahfdiebhdbaaDoorLa4
import Derived.Test.YtmpahfdiebhdbaaDoorLa3
import Derived.Test.YtmpahfdiebhdbaaDoorRows
import Derived.Deep.Slices
import Derived.ProofKit
import Derived.Test.YtmpahfdiebhdbaaDoorLa2
set_option linter.all false
namespace Go.Proofs.YtmpahfdiebhdbaaDoor
open Go Go.HL Go.Proofs Go.Wx Go.Rd
section
variable [Lvl]
set_option maxRecDepth 100000
theorem neself (x : Int) : (!(x == x)) = false := by simp
theorem nanC_ok (x : Int) (h : AH) : FnT Tryd.prog 74 #[.int .i64 x] h (fun v _ => v = .bool false) := by
 refine wL Tryd.func74 rfl Tryd.ntmps74 rfl ?_
 refine qE ?_
 refine qC rfl ?_
 refine qA (qF (v := .bool _) rfl) ?_
 refine qE ?_
 refine qC rfl ?_
 refine qA (qD (v := .int .i64 _) rfl) ?_
 refine qA (qD (v := .int .i64 _) rfl) ?_
 refine qA (qJ (v := .bool _) rfl) ?_
 refine qA (qF (v := .bool _) rfl) ?_
 refine wD ?_
 refine qS (vs := [_]) Tryd.results74 ⟨qM rfl rfl, trivial⟩ fun V => ?_
 exact ⟨(qZ V), congrArg Value.bool (neself x)⟩
theorem nanS_ok (x : Int) (h : AH) : FnT Tryd.prog 68 #[.int .i64 x] h (fun v _ => v = .bool false) := by
 refine wL Tryd.func68 rfl Tryd.ntmps68 rfl ?_
 refine qE ?_
 refine qC rfl ?_
 refine qA (qF (v := .bool _) rfl) ?_
 refine qE ?_
 refine qC rfl ?_
 refine qA (qD (v := .int .i64 _) rfl) ?_
 refine qA (qD (v := .int .i64 _) rfl) ?_
 refine qA (qJ (v := .bool _) rfl) ?_
 refine qA (qF (v := .bool _) rfl) ?_
 refine wD ?_
 refine qS (vs := [_]) Tryd.results68 ⟨qM rfl rfl, trivial⟩ fun V => ?_
 exact ⟨(qZ V), congrArg Value.bool (neself x)⟩
theorem less_ok (x y : Int) (h : AH) : FnT Tryd.prog 67 #[.int .i64 x, .int .i64 y] h (fun v _ => v = .bool (decide (x < y))) := by
 refine wL Tryd.func67 rfl Tryd.ntmps67 rfl ?_
 refine qE ?_
 refine qC rfl ?_
 refine qA (qF (v := .bool _) rfl) ?_
 refine qE ?_
 refine qC rfl ?_
 refine qA (qD (v := .int .i64 _) rfl) ?_
 refine qV (caps := []) (vs := [.int .i64 _]) rfl rfl rfl (nanC_ok x h) ?_
 rintro _ h1 E1 rfl
 refine qA (qD (v := .bool _) rfl) ?_
 refine qR rfl rfl ?_
 refine qR rfl rfl ?_
 refine qR rfl rfl ?_
 refine qA (wI rfl rfl (v := .bool _) rfl) ?_
 refine qA (qD (v := .bool _) rfl) ?_
 refine qG rfl rfl ?_
 refine qA (qD (v := .int .i64 _) rfl) ?_
 refine qG rfl rfl ?_
 refine qA (qD (v := .int .i64 _) rfl) ?_
 refine qG rfl rfl ?_
 refine qA (qJ (v := .bool _) rfl) ?_
 refine qA (wI rfl rfl (v := .bool _) rfl) ?_
 refine qA (qF (v := .bool _) rfl) ?_
 refine wD ?_
 refine qS (vs := [_]) Tryd.results67 ⟨qM rfl rfl, trivial⟩ fun V => ?_
 exact ⟨(zL E1 (qZ V)), rfl⟩
theorem pw_le {l : List Int} (p : l.Pairwise (· < ·)) {i j : Nat} (hi : i < l.length) (hj : j < l.length) (hij : i ≤ j) : l[i] ≤ l[j] := by
 rcases Nat.lt_or_eq_of_le hij with h | rfl
 ·exact Int.le_of_lt (List.pairwise_iff_getElem.1 p i j hi hj h)
 ·exact Int.le_refl _
def AtP (l : List Int) (z : Int) (i : Nat) : Prop := i ≤ l.length ∧ (∀ k (hk : k < l.length), k < i → l[k] < z) ∧ ∀ k (hk : k < l.length), i ≤ k → z ≤ l[k]
theorem AtP.mem {l : List Int} {z : Int} {i : Nat} (a : AtP l z i) (hi : i < l.length) : (z ∈ l ↔ l[i] = z) ∨ ¬ l.Pairwise (· < ·) := by
 by_cases p : l.Pairwise (· < ·)
 ·left
  constructor
  ·intro hm
   obtain ⟨k, hk, rfl⟩ := List.getElem_of_mem hm
   by_cases hki : k < i
   ·exact absurd (a.2.1 k hk hki) (Int.lt_irrefl _)
   ·exact Int.le_antisymm (pw_le p hi hk (by omega)) (a.2.2 i hi (Nat.le_refl _))
  ·intro e; rw [← e]; exact List.getElem_mem hi
 ·right; exact p
theorem search_ok (l : List Int) (z : Int) (A : Option Addr) (c : Nat) (h : AH) (R : Row h 1 intC A l) (hl : l.length < 2 ^ 20) (p : l.Pairwise (· < ·)) :
  FnT Tryd.prog 55 #[.slice A l.length c, .int .i64 z] h (fun v _ => ∃ i : Nat, v = .tuple #[.int .i64 (i : Int), .bool (decide (z ∈ l))] ∧ AtP l z i) := by
 refine wL Tryd.func55 rfl Tryd.ntmps55 rfl ?_
 refine qE ?_
 refine qC rfl ?_
 refine qA (qF (v := .int .i64 _) rfl) ?_
 refine qA (qF (v := .bool _) rfl) ?_
 refine qE ?_
 refine qC rfl ?_
 refine qA (qD (v := .slice _ _ _) rfl) ?_
 refine qA (wP rfl rfl) ?_
 refine qA (qF (v := .int .i64 _) rfl) ?_
 refine qE ?_
 refine qC rfl ?_
 refine qA (qD (v := .int .i64 _) rfl) ?_
 refine qA (qF (v := .int .i64 _) rfl) ?_
 refine qA (qF (v := .int .i64 _) rfl) ?_
 refine qE ?_
 refine qT ?_
 refine xp_loopB [7, 8, 9, 13, 14, 15, 16, 17, 18, 19, 20, 21, 22, 23, 24, 25, 26, 27, 28, 29, 30] 0 (α := Nat × Nat) (fun ⟨i, j⟩ => [(7, .int .i64 i), (8, .int .i64 j)]) (fun ⟨i, j⟩ => _) (fun ⟨i, j⟩ h_i => i ≤ j ∧ j ≤ l.length ∧ (∀ k (hk : k < l.length), k < i → l[k] < z) ∧ ∀ k (hk : k < l.length), j ≤ k → z ≤ l[k]) (fun ⟨i, j⟩ => j - i) ((0, l.length)) ⟨rfl, rfl, trivial⟩ (rfl) (⟨Nat.zero_le _, Nat.le_refl _, fun _ _ h => absurd h (Nat.not_lt_zero _), fun _ h1 h2 => absurd h1 (by omega)⟩) ?_
 rintro ⟨i, j⟩ T1 h_i E_i J_i
 refine wE [] rfl ?_
 obtain ⟨K1, K2, K3, K4⟩ := J_i
 refine qE ?_
 refine qE ?_
 refine qC rfl ?_
 refine qA (qD (v := .int .i64 _) rfl) ?_
 refine qA (qD (v := .int .i64 _) rfl) ?_
 refine qA (qJ (v := .bool _) rfl) ?_
 refine wA rfl (fun hk => ?_) (fun hk => ?_)
 ·skip
  have hij : i < j := ltI hk
  refine qP ?_
  refine qT ?_
  refine qE ?_
  refine qC rfl ?_
  refine qA (qD (v := .int .i64 _) rfl) ?_
  refine qA (qD (v := .int .i64 _) rfl) ?_
  refine qA (qX rfl (by omega)) ?_
  refine qA (pv_conv (k := .u64) (z' := ((i + j : Nat) : Int)) rfl rfl rfl (by rw [← Int.natCast_add]; exact u64_nat _ (by omega))) ?_
  refine op_shr (i + j) 1 rfl rfl rfl rfl (by omega) ?_
  refine qA (pv_conv (k := .i64) (z' := (((i + j) / 2 : Nat) : Int)) rfl rfl rfl (by exact IntWalk.i64_in _ (by omega))) ?_
  have hm1 : (i + j) / 2 < j := by omega
  have hm0 : i ≤ (i + j) / 2 := by omega
  obtain ⟨m, hm⟩ : ∃ m, m = (i + j) / 2 := ⟨_, rfl⟩
  rw [← hm] at hm1 hm0 ⊢
  have hml : m < l.length := by omega
  obtain ⟨g, off, hA, hc⟩ := (R.ext E_i).at (by omega) hml
  refine qA (qF (v := .int .i64 _) rfl) ?_
  refine qE ?_
  refine qC rfl ?_
  refine qA (qD (v := .slice _ _ _) rfl) ?_
  refine qA (qD (v := .int .i64 _) rfl) ?_
  refine qA (wU rfl hA rfl rfl rfl (by omega) (by omega)) ?_
  refine wT (v := .int .i64 _) rfl rfl ((hc) 0 _ rfl) ?_
  refine qA (qD (v := .int .i64 _) rfl) ?_
  refine qV (caps := []) (vs := [.int .i64 _, .int .i64 _]) rfl rfl rfl (less_ok l[m] z h_i) ?_
  rintro _ h1 E1 rfl
  refine wA rfl (fun he => ?_) (fun he => ?_)
  ·skip
   have he' : l[m] < z := of_decide_eq_true he
   refine qC rfl ?_
   refine qA (qD (v := .int .i64 _) rfl) ?_
   refine qA (qX rfl (by omega)) ?_
   refine qA (qF (v := .int .i64 _) rfl) ?_
   refine ⟨(m + 1, j), ⟨rfl, rfl, trivial⟩, rfl, rfl, (zL E_i E1), fun h3 E3 => ⟨hm1, K2, fun k hk h => Int.lt_of_le_of_lt (pw_le p hk hml (by omega)) he', K4⟩, by first | omega | (dsimp only; omega), ?_⟩
   repeat (first | exact wK _ _ _ | refine wM (by decide) ?_ | refine wJ rfl ?_ | refine wN rfl ?_)
  ·skip
   have he' : ¬ l[m] < z := of_decide_eq_false he
   refine qC rfl ?_
   refine qA (qD (v := .int .i64 _) rfl) ?_
   refine qA (qF (v := .int .i64 _) rfl) ?_
   refine ⟨(i, m), ⟨rfl, rfl, trivial⟩, rfl, rfl, (zL E_i E1), fun h3 E3 => ⟨hm0, by omega, K3, fun k hk h => Int.le_trans (by omega) (pw_le p hml hk h)⟩, by first | omega | (dsimp only; omega), ?_⟩
   repeat (first | exact wK _ _ _ | refine wM (by decide) ?_ | refine wJ rfl ?_ | refine wN rfl ?_)
 ·skip
  have hke : i = j := by have := geI hk; omega
  subst hke
  have AT : AtP l z i := ⟨K2, K3, K4⟩
  by_cases hil : i < l.length
  ·have hg : decide ((i : Int) < (l.length : Int)) = true := decide_eq_true (by omega)
   have hmem := (AT.mem hil).resolve_right (fun y => y p)
   obtain ⟨g, off, hA, hc⟩ := (R.ext E_i).at (by omega) hil
   refine zA ?_
   refine qE ?_
   refine qC rfl ?_
   refine qA (qD (v := .int .i64 _) rfl) ?_
   refine qA (qD (v := .int .i64 _) rfl) ?_
   refine qA (qD (v := .int .i64 _) rfl) ?_
   refine qA (qJ (v := .bool _) rfl) ?_
   refine qA (qD (v := .bool _) rfl) ?_
   refine qG rfl hg ?_
   refine qA (qD (v := .slice _ _ _) rfl) ?_
   refine qG rfl hg ?_
   refine qA (qD (v := .int .i64 _) rfl) ?_
   refine qG rfl hg ?_
   refine qA (wU rfl hA rfl rfl rfl (by omega) (by omega)) ?_
   refine qG rfl hg ?_
   refine wT (v := .int .i64 _) rfl rfl ((hc) 0 _ rfl) ?_
   refine qG rfl hg ?_
   refine qA (qD (v := .int .i64 _) rfl) ?_
   refine qG rfl hg ?_
   refine qA (qJ (v := .bool _) rfl) ?_
   refine qG rfl hg ?_
   refine qA (qD (v := .bool _) rfl) ?_
   by_cases hz : l[i] = z
   ·have hg2 : (l[i] == z) = true := by simpa using hz
    refine qR rfl hg2 ?_
    refine qR rfl hg2 ?_
    refine qR rfl hg2 ?_
    refine qR rfl hg2 ?_
    refine qR rfl hg2 ?_
    refine qR rfl hg2 ?_
    refine guard_un rfl ?_
    refine guard_un rfl ?_
    refine qR rfl hg2 ?_
    refine qG rfl hg ?_
    refine qA (wV rfl hg2 (v := .bool _) rfl) ?_
    refine qA (wV rfl hg (v := .bool _) rfl) ?_
    refine qA (qF (v := .int .i64 _) rfl) ?_
    refine qA (qF (v := .bool _) rfl) ?_
    refine wD ?_
    refine qS (vs := [_, _]) Tryd.results55 ⟨qM rfl rfl, qM rfl rfl, trivial⟩ fun V => ?_
    exact ⟨(zL E_i (qZ V)), i, (congrArg (fun b => Value.tuple #[.int .i64 i, .bool b]) (decide_eq_true (hmem.2 hz)).symm), AT⟩
   ·have hg2 : (l[i] == z) = false := by simpa using hz
    obtain ⟨g2, off2, hA2, hc2⟩ := (R.ext E_i).at (by omega) hil
    refine qG rfl hg2 ?_
    refine qA (qD (v := .slice _ _ _) rfl) ?_
    refine qG rfl hg2 ?_
    refine qA (qD (v := .int .i64 _) rfl) ?_
    refine qG rfl hg2 ?_
    refine qA (wU rfl hA2 rfl rfl rfl (by omega) (by omega)) ?_
    refine qG rfl hg2 ?_
    refine wT (v := .int .i64 _) rfl rfl ((hc2) 0 _ rfl) ?_
    refine qG rfl hg2 ?_
    refine qV (caps := []) (vs := [.int .i64 _]) rfl rfl rfl (nanS_ok l[i] h_i) ?_
    rintro _ h1 E1 rfl
    refine qG rfl hg2 ?_
    refine qA (qD (v := .bool _) rfl) ?_
    refine qR rfl rfl ?_
    refine qR rfl rfl ?_
    refine qG rfl hg2 ?_
    refine qA (wI rfl rfl (v := .bool _) rfl) ?_
    refine qG rfl hg ?_
    refine qA (wI rfl hg2 (v := .bool _) rfl) ?_
    refine qA (wV rfl hg (v := .bool _) rfl) ?_
    refine qA (qF (v := .int .i64 _) rfl) ?_
    refine qA (qF (v := .bool _) rfl) ?_
    refine wD ?_
    refine qS (vs := [_, _]) Tryd.results55 ⟨qM rfl rfl, qM rfl rfl, trivial⟩ fun V => ?_
    exact ⟨(zL (zL E_i E1) (qZ V)), i, (congrArg (fun b => Value.tuple #[.int .i64 i, .bool b]) (decide_eq_false (fun y => hz (hmem.1 y))).symm), AT⟩
  ·have hg : decide ((i : Int) < (l.length : Int)) = false := decide_eq_false (by omega)
   refine zA ?_
   refine qE ?_
   refine qC rfl ?_
   refine qA (qD (v := .int .i64 _) rfl) ?_
   refine qA (qD (v := .int .i64 _) rfl) ?_
   refine qA (qD (v := .int .i64 _) rfl) ?_
   refine qA (qJ (v := .bool _) rfl) ?_
   refine qA (qD (v := .bool _) rfl) ?_
   refine qR rfl hg ?_
   refine qR rfl hg ?_
   refine qR rfl hg ?_
   refine qR rfl hg ?_
   refine qR rfl hg ?_
   refine qR rfl hg ?_
   refine qR rfl hg ?_
   refine guard_un rfl ?_
   refine guard_un rfl ?_
   refine guard_un rfl ?_
   refine guard_un rfl ?_
   refine guard_un rfl ?_
   refine guard_un rfl ?_
   refine guard_un rfl ?_
   refine guard_un rfl ?_
   refine guard_un rfl ?_
   refine qR rfl hg ?_
   refine qA (wI rfl hg (v := .bool _) rfl) ?_
   refine qA (qF (v := .int .i64 _) rfl) ?_
   refine qA (qF (v := .bool _) rfl) ?_
   refine wD ?_
   refine qS (vs := [_, _]) Tryd.results55 ⟨qM rfl rfl, qM rfl rfl, trivial⟩ fun V => ?_
   have hlen : i = l.length := by have := AT.1; omega
   have hno : ¬ z ∈ l := fun y => by
    obtain ⟨k, hk, e⟩ := List.getElem_of_mem y
    have := AT.2.1 k hk (by omega)
    omega
   exact ⟨(zL E_i (qZ V)), i, (congrArg (fun b => Value.tuple #[.int .i64 i, .bool b]) (decide_eq_false hno).symm), AT⟩
end
end Go.Proofs.YtmpahfdiebhdbaaDoor
namespace Go.Proofs.YtmpahfdiebhdbaaDoor
open Go Go.HL Go.Proofs Go.Wx Go.Rd
section
variable [Lvl]
set_option maxRecDepth 100000
theorem flatI (l : List Int) : (l.flatMap intC).length = l.length := by rw [zE (m := 1) (fun _ _ => rfl), Nat.mul_one]
theorem insE_ok (l : List Int) (z : Int) (a : Acc) (b : Nat) (h : AH) (ha : AccR 3 1 (l.flatMap intC) a) (hl : l.length < 2 ^ 20) :
  FnM Tryd.prog (.func (.func 56) #[] ([] : List Value).toArray) [.slice a.A a.n a.c, .int .i64 (l.length : Int), .slice (some ⟨b, 0, none⟩) 1 1] h [a.p, some (b, .cells [Value.int .i64 z].toArray 3 (0, 0))] (fun v h' M' => M' = [] ∧ SlR h' 1 intC (l ++ [z]) v) := by
 have hn : a.n = l.length := by have := ha.len; rw [flatI] at this; omega
 have hc : a.n ≤ a.c := by
  rcases ha with ⟨_, _, A, ev⟩ | ⟨b, len, cap, junk, hl1, ev, _, h4⟩
  ·injection ev with _ h2 h3; omega
  ·injection ev with _ h2 h3; simp only [List.length_append] at h4; omega
 refine fnM_body rfl rfl Tryd.func56 rfl Tryd.ntmps56 rfl ?_
 refine qE ?_
 refine qC rfl ?_
 refine qA (qF (v := .slice _ _ _) rfl) ?_
 refine qE ?_
 refine qC rfl ?_
 refine qA (qD (v := .slice _ _ _) rfl) ?_
 refine qA (qD (v := .int .i64 _) rfl) ?_
 refine qA (pv_sliceLo l.length rfl rfl rfl rfl rfl (by omega) (by omega)) ?_
 refine qE ?_
 refine qC rfl ?_
 refine qA (qD (v := .slice _ _ _) rfl) ?_
 refine qA (wP rfl rfl) ?_
 refine qA (qF (v := .int .i64 _) rfl) ?_
 refine qE ?_
 refine qE ?_
 refine qC rfl ?_
 refine qA (qD (v := .int .i64 _) rfl) ?_
 refine qA (qJ (v := .bool _) rfl) ?_
 refine wO rfl (rfl) ?_
 refine qP ?_
 refine qE ?_
 refine qC rfl ?_
 refine qA (qD (v := .slice _ _ _) rfl) ?_
 refine qA (wP rfl rfl) ?_
 refine qA (qF (v := .int .i64 _) rfl) ?_
 refine qE ?_
 refine qE ?_
 refine qC rfl ?_
 refine qA (qD (v := .int .i64 _) rfl) ?_
 refine qA (qD (v := .int .i64 _) rfl) ?_
 refine qA (qJ (v := .bool _) rfl) ?_
 refine wY rfl ((by rw [natBeq]; exact decide_eq_true (by omega))) ?_
 refine qE ?_
 refine qC rfl ?_
 refine qA (qD (v := .slice _ _ _) rfl) ?_
 refine qA (qD (v := .slice _ _ _) rfl) ?_
 refine zF 0 ha rfl rfl rfl (fun V => rdP V (i := 1) rfl) rfl rfl rfl rfl rfl rfl rfl rfl rfl (by omega) rfl ((by rw [flatI]; simp; omega)) fun a2 h1a E1a ha2 => ?_
 refine qH [_, _] rfl ?_
 refine qA (qF (v := .slice _ _ _) rfl) ?_
 refine wD ?_
 refine qS (vs := [_]) Tryd.results56 ⟨qM rfl rfl, trivial⟩ fun V => ?_
 obtain ⟨h9, E9, e9, V9⟩ := wl_shed [_, _] [] V
 exact ⟨h9, [], e9, V9, zL E1a E9, rfl, shed_row e9 (AccP.row (m := 1) (enc := intC) (i := 0) (l := l ++ [z]) (by rw [List.flatMap_append]; exact ha2) (by omega) (fun _ _ => rfl) V rfl)⟩
theorem insM_ok (p q : List Int) (z : Int) (b0 b n cap : Nat) (J : List Value) (h : AH) (hn : n = p.length + q.length) (hc : n + J.length = cap) (hq : q ≠ []) (hl : n < 2 ^ 20) :
  FnM Tryd.prog (.func (.func 56) #[] ([] : List Value).toArray) [.slice (some ⟨b0, 0, none⟩) n cap, .int .i64 (p.length : Int), .slice (some ⟨b, 0, none⟩) 1 1] h [some (b0, .cells (p.flatMap intC ++ q.flatMap intC ++ J).toArray 3 (0, 0)), some (b, .cells [Value.int .i64 z].toArray 3 (0, 0))] (fun v h' M' => M' = [] ∧ SlR h' 1 intC (p ++ z :: q) v) := by
 have hq0 : 0 < q.length := List.length_pos_iff.2 hq
 have hA := flatI p
 have hB := flatI q
 have hqB : q.flatMap intC ≠ [] := List.length_pos_iff.1 (by omega)
 have fin : ∀ (X : List Value) (bb cc : Nat), n + 1 + X.length = cc → AccP 3 1 ((p ++ z :: q).flatMap intC) (some (bb, .cells (p.flatMap intC ++ [Value.int .i64 z] ++ q.flatMap intC ++ X).toArray 3 (0, 0))) (.slice (some ⟨bb, 0, none⟩) (n + 1) cc) := by
  intro X bb cc hX
  have e : (p ++ z :: q).flatMap intC = p.flatMap intC ++ [Value.int .i64 z] ++ q.flatMap intC := by rw [List.flatMap_append, List.flatMap_cons, List.append_assoc]; rfl
  refine .inr ⟨bb, n + 1, cc, X, ?_, rfl, by rw [e], ?_⟩
  ·rw [flatI]; simp; omega
  ·rw [List.length_append, flatI]; simp; omega
 refine fnM_body rfl rfl Tryd.func56 rfl Tryd.ntmps56 rfl ?_
 refine qE ?_
 refine qC rfl ?_
 refine qA (qF (v := .slice _ _ _) rfl) ?_
 refine qE ?_
 refine qC rfl ?_
 refine qA (qD (v := .slice _ _ _) rfl) ?_
 refine qA (qD (v := .int .i64 _) rfl) ?_
 refine qA (pv_sliceLo p.length rfl rfl rfl rfl rfl (by omega) (by omega)) ?_
 refine qE ?_
 refine qC rfl ?_
 refine qA (qD (v := .slice _ _ _) rfl) ?_
 refine qA (wP rfl rfl) ?_
 refine qA (qF (v := .int .i64 _) rfl) ?_
 refine qE ?_
 refine qE ?_
 refine qC rfl ?_
 refine qA (qD (v := .int .i64 _) rfl) ?_
 refine qA (qJ (v := .bool _) rfl) ?_
 refine wO rfl (rfl) ?_
 refine qP ?_
 refine qE ?_
 refine qC rfl ?_
 refine qA (qD (v := .slice _ _ _) rfl) ?_
 refine qA (wP rfl rfl) ?_
 refine qA (qF (v := .int .i64 _) rfl) ?_
 refine qE ?_
 refine qE ?_
 refine qC rfl ?_
 refine qA (qD (v := .int .i64 _) rfl) ?_
 refine qA (qD (v := .int .i64 _) rfl) ?_
 refine qA (qJ (v := .bool _) rfl) ?_
 refine wO rfl ((by rw [natBeq]; exact decide_eq_false (by omega))) ?_
 refine qP ?_
 refine qE ?_
 refine qE ?_
 refine qC rfl ?_
 refine qA (qD (v := .int .i64 _) rfl) ?_
 refine qA (qD (v := .int .i64 _) rfl) ?_
 refine qA (qX rfl (by omega)) ?_
 refine qA (qD (v := .slice _ _ _) rfl) ?_
 refine qA (pv_cap rfl rfl) ?_
 refine qA (qJ (v := .bool _) rfl) ?_
 refine wA rfl (fun hroom => ?_) (fun hroom => ?_)
 ·skip
  have hr : cap < n + 1 := by have := of_decide_eq_true hroom; omega
  refine qE ?_
  refine qC rfl ?_
  refine qA (qD (v := .slice _ _ _) rfl) ?_
  refine qA (qD (v := .int .i64 _) rfl) ?_
  refine qA (pv_sliceHi p.length rfl rfl rfl rfl rfl (by omega)) ?_
  refine qA (qD (v := .int .i64 _) rfl) ?_
  refine qA (qD (v := .int .i64 _) rfl) ?_
  refine qA (qX rfl (by omega)) ?_
  refine qA (qD (v := .int .i64 _) rfl) ?_
  refine qA (qX rfl (by omega)) ?_
  refine op_appendMake (m := 1) (k := n + 1 - p.length) (cs := p.flatMap intC) rfl rfl (by omega) (fun V => rdAt [] _ (q.flatMap intC ++ J) (i := 0) V rfl rfl (by simp)) (by rw [hA]; exact (Nat.mul_one _).symm) rfl rfl rfl rfl rfl rfl rfl (by decide) rfl (by omega) (by omega) (by omega) fun b9 cap9 j9 h9 hj9 hcap9 => ?_
  refine qH [_, _, _] rfl ?_
  obtain ⟨X, hX, hXl⟩ := gap_new (p.flatMap intC) (q.flatMap intC) j9 (.int .i64 z) (by omega)
  rw [hA] at hX
  have hsum : p.length + (n + 1 - p.length) = n + 1 := by omega
  refine qA (qF (v := .slice _ _ _) rfl) ?_
  refine qE ?_
  refine qC rfl ?_
  refine qA (qD (v := .slice _ _ _) rfl) ?_
  refine qA (qD (v := .int .i64 _) rfl) ?_
  refine qA (pv_sliceLoS p.length (A' := some ⟨b9, p.length, none⟩) (l' := n + 1 - p.length) (c' := cap9 - p.length) rfl rfl rfl rfl rfl (by omega) (by omega) (slA (by omega)) (by omega) rfl) ?_
  refine qA (qD (v := .slice _ _ _) rfl) ?_
  refine op_copyP 2 (cs := p.flatMap intC ++ j9) (xs := [Value.int .i64 z]) (k := 1) rfl rfl rfl (by show min _ _ = _; omega) (fun V => rdP V (i := 1) rfl) rfl rfl rfl rfl (by simp only [List.length_append, List.length_cons, List.length_nil]; omega) rfl ?_
  refine qH [_, _, _] rfl ?_
  refine qE ?_
  refine xp_dw [] rfl rfl rfl ?_
  refine qO (i := 0) rfl (by decide +kernel) (qD (v := .slice _ _ _) rfl) ?_
  refine qO (i := 1) rfl (by decide +kernel) (qD (v := .int .i64 _) rfl) ?_
  refine qO (i := 2) rfl (by decide +kernel) (qD (v := .int .i64 _) rfl) ?_
  refine qO (i := 3) rfl (by decide +kernel) (qX rfl (by omega)) ?_
  refine qO (i := 4) rfl (by decide +kernel) (pv_sliceLoS (p.length + 1) (A' := some ⟨b9, p.length + 1, none⟩) (l' := n - p.length) (c' := cap9 - (p.length + 1)) rfl rfl (by omega) rfl rfl (by omega) (by omega) (slA (by omega)) (by omega) rfl) ?_
  refine qO (i := 5) rfl (by decide +kernel) (qD (v := .slice _ _ _) rfl) ?_
  refine qO (i := 6) rfl (by decide +kernel) (qD (v := .int .i64 _) rfl) ?_
  refine qO (i := 7) rfl (by decide +kernel) (pv_sliceLoS p.length (A' := some ⟨b0, p.length, none⟩) (l' := n - p.length) (c' := cap - p.length) rfl rfl rfl rfl rfl (by omega) (by omega) (slA (by omega)) (by omega) rfl) ?_
  refine dw_last (i := 8) rfl (by decide +kernel) (by decide +kernel) ?_
  refine op_copyP 2 (xs := q.flatMap intC) (k := n - p.length) rfl rfl rfl (by show min _ _ = _; omega) (fun V => rdAt (p.flatMap intC) _ J (i := 0) V rfl hA.symm rfl) (by rw [hB]; show _ = _ * 1; omega) (flat_plain intP2 q) rfl rfl (by rw [wrL_len]; simp only [List.length_append, List.length_cons, List.length_nil]; omega) hX ?_
  refine zI [_, _, _] rfl ?_
  refine dw_end rfl ?_
  refine qE ?_
  refine qC rfl ?_
  refine qA (qD (v := .slice _ _ _) rfl) ?_
  refine qA (qF (v := .slice _ _ _) rfl) ?_
  refine wD ?_
  refine qS (vs := [_]) Tryd.results56 ⟨qM rfl rfl, trivial⟩ fun V => ?_
  obtain ⟨h9, E9, e9, V9⟩ := wl_shed [_, _, _] [] V
  exact ⟨h9, [], e9, V9, zL (Ext.refl _) E9, rfl, shed_row e9 (AccP.row (m := 1) (enc := intC) (i := 2) (l := p ++ z :: q) (by show AccP _ _ _ _ (.slice _ (p.length + (n + 1 - p.length)) _); rw [hsum]; exact fin X b9 cap9 (by omega)) (by omega) (fun _ _ => rfl) V rfl)⟩
 ·skip
  have hr : n + 1 ≤ cap := by have := of_decide_eq_false hroom; omega
  obtain ⟨g0, X, hX, hXl, hX2⟩ := gap_len (p.flatMap intC) (q.flatMap intC) J hqB (List.length_pos_iff.1 (by omega))
  rw [hA] at hX hX2
  refine qP ?_
  refine qE ?_
  refine qC rfl ?_
  refine qA (qD (v := .slice _ _ _) rfl) ?_
  refine qA (qD (v := .int .i64 _) rfl) ?_
  refine qA (qD (v := .int .i64 _) rfl) ?_
  refine qA (qX rfl (by omega)) ?_
  refine qA (pv_sliceHi (n + 1) rfl rfl (by omega) rfl rfl (by omega)) ?_
  refine qA (qF (v := .slice _ _ _) rfl) ?_
  refine qE ?_
  refine qE ?_
  refine qC rfl ?_
  refine qA (qD (v := .slice _ _ _) rfl) ?_
  refine qA (qD (v := .slice _ _ _) rfl) ?_
  refine qA (qD (v := .int .i64 _) rfl) ?_
  refine qA (qD (v := .int .i64 _) rfl) ?_
  refine qA (qX rfl (by omega)) ?_
  refine qA (pv_sliceLoS (p.length + 1) (A' := some ⟨b0, p.length + 1, none⟩) (l' := n - p.length) (c' := cap - (p.length + 1)) rfl rfl (by omega) rfl rfl (by omega) (by omega) (slA (by omega)) (by omega) rfl) ?_
  refine op_overlaps (tS := 22) (e := 3) (size := 1) (rs := #[4]) rfl Tryd.func69 (by kernel_rfl) (by kernel_rfl) (by kernel_rfl) (by kernel_rfl) rfl rfl rfl (fun V => zC V (i := 1) rfl) (fun V => zC V (i := 0) rfl) (fun V => (valid_ne V).symm) ?_
  refine qA (qJ (v := .bool _) rfl) ?_
  refine wY rfl (rfl) ?_
  refine qE ?_
  refine xp_dw [] rfl rfl rfl ?_
  refine qO (i := 0) rfl (by decide +kernel) (qD (v := .slice _ _ _) rfl) ?_
  refine qO (i := 1) rfl (by decide +kernel) (qD (v := .int .i64 _) rfl) ?_
  refine qO (i := 2) rfl (by decide +kernel) (qD (v := .int .i64 _) rfl) ?_
  refine qO (i := 3) rfl (by decide +kernel) (qX rfl (by omega)) ?_
  refine qO (i := 4) rfl (by decide +kernel) (pv_sliceLoS (p.length + 1) (A' := some ⟨b0, p.length + 1, none⟩) (l' := n - p.length) (c' := cap - (p.length + 1)) rfl rfl (by omega) rfl rfl (by omega) (by omega) (slA (by omega)) (by omega) rfl) ?_
  refine qO (i := 5) rfl (by decide +kernel) (qD (v := .slice _ _ _) rfl) ?_
  refine qO (i := 6) rfl (by decide +kernel) (qD (v := .int .i64 _) rfl) ?_
  refine qO (i := 7) rfl (by decide +kernel) (pv_sliceLoS p.length (A' := some ⟨b0, p.length, none⟩) (l' := n + 1 - p.length) (c' := cap - p.length) rfl rfl rfl rfl rfl (by omega) (by omega) (slA (by omega)) (by omega) rfl) ?_
  refine dw_last (i := 8) rfl (by decide +kernel) (by decide +kernel) ?_
  refine op_copyP 0 (cs := p.flatMap intC ++ q.flatMap intC ++ J) (xs := q.flatMap intC) (k := n - p.length) rfl rfl rfl (by show min _ _ = _; omega) (fun V => rdAt (p.flatMap intC) _ J (i := 0) V rfl hA.symm rfl) (by rw [hB]; show _ = _ * 1; omega) (flat_plain intP2 q) rfl rfl (by simp only [List.length_append, List.length_cons, List.length_nil]; omega) hX ?_
  refine zI [_, _] rfl ?_
  refine dw_end rfl ?_
  refine qE ?_
  refine qC rfl ?_
  refine qA (qD (v := .slice _ _ _) rfl) ?_
  refine qA (qD (v := .int .i64 _) rfl) ?_
  refine qA (pv_sliceLoS p.length (A' := some ⟨b0, p.length, none⟩) (l' := n + 1 - p.length) (c' := cap - p.length) rfl rfl rfl rfl rfl (by omega) (by omega) (slA (by omega)) (by omega) rfl) ?_
  refine qA (qD (v := .slice _ _ _) rfl) ?_
  refine op_copyP 0 (xs := [Value.int .i64 z]) (k := 1) rfl rfl rfl (by show min _ _ = _; omega) (fun V => rdP V (i := 1) rfl) rfl rfl rfl rfl (by simp only [List.length_append, List.length_cons, List.length_nil]; omega) (hX2 (.int .i64 z)) ?_
  refine qH [_, _] rfl ?_
  refine qE ?_
  refine qC rfl ?_
  refine qA (qD (v := .slice _ _ _) rfl) ?_
  refine qA (qF (v := .slice _ _ _) rfl) ?_
  refine wD ?_
  refine qS (vs := [_]) Tryd.results56 ⟨qM rfl rfl, trivial⟩ fun V => ?_
  obtain ⟨h9, E9, e9, V9⟩ := wl_shed [_, _] [] V
  exact ⟨h9, [], e9, V9, zL (Ext.refl _) E9, rfl, shed_row e9 (AccP.row (m := 1) (enc := intC) (i := 0) (l := p ++ z :: q) (fin X b0 cap (by omega)) (by omega) (fun _ _ => rfl) V rfl)⟩
end
end Go.Proofs.YtmpahfdiebhdbaaDoor
namespace Go.Proofs.YtmpahfdiebhdbaaDoor
open Go Go.HL Go.Proofs Go.Wx Go.Rd
section
variable [Lvl]
set_option maxRecDepth 100000
theorem del_ok (p q : List Int) (x : Int) (b0 n cap : Nat) (J : List Value) (h : AH) (hn : n = p.length + 1 + q.length) (hc : n + J.length = cap) (hl : n < 2 ^ 20) :
  FnM Tryd.prog (.func (.func 57) #[] ([] : List Value).toArray) [.slice (some ⟨b0, 0, none⟩) n cap, .int .i64 (p.length : Int), .int .i64 ((p.length : Int) + 1)] h [some (b0, .cells (p.flatMap intC ++ [Value.int .i64 x] ++ q.flatMap intC ++ J).toArray 3 (0, 0))] (fun v h' M' => M' = [] ∧ SlR h' 1 intC (p ++ q) v) := by
 have hA := flatI p
 have hB := flatI q
 obtain ⟨X, hX, hXl, Y, hY, hYl⟩ := gap_shut (p.flatMap intC) (q.flatMap intC) J (.int .i64 x) (.int .i64 0)
 rw [hA] at hX hY
 rw [hB] at hY
 have fin : AccP 3 1 ((p ++ q).flatMap intC) (some (b0, .cells (p.flatMap intC ++ q.flatMap intC ++ Y).toArray 3 (0, 0))) (.slice (some ⟨b0, 0, none⟩) (p.length + q.length) cap) := by
  have e : (p ++ q).flatMap intC = p.flatMap intC ++ q.flatMap intC := List.flatMap_append
  refine .inr ⟨b0, p.length + q.length, cap, Y, ?_, rfl, by rw [e], ?_⟩
  ·rw [flatI, List.length_append]; omega
  ·rw [List.length_append, flatI, List.length_append]; omega
 refine fnM_body rfl rfl Tryd.func57 rfl Tryd.ntmps57 rfl ?_
 refine qE ?_
 refine qC rfl ?_
 refine qA (qF (v := .slice _ _ _) rfl) ?_
 refine qE ?_
 refine qC rfl ?_
 refine qA (qD (v := .slice _ _ _) rfl) ?_
 refine qA (qD (v := .int .i64 _) rfl) ?_
 refine qA (qD (v := .int .i64 _) rfl) ?_
 refine qA (qD (v := .slice _ _ _) rfl) ?_
 refine qA (wP rfl rfl) ?_
 refine qA (pv_slice3 p.length (p.length + 1) n rfl rfl rfl rfl rfl (by omega) rfl rfl rfl (by omega) (by omega) (by omega)) ?_
 refine qE ?_
 refine qE ?_
 refine qC rfl ?_
 refine qA (qD (v := .int .i64 _) rfl) ?_
 refine qA (qD (v := .int .i64 _) rfl) ?_
 refine qA (qJ (v := .bool _) rfl) ?_
 refine wO rfl ((by show decide _ = _; exact decide_eq_false (by omega))) ?_
 refine qP ?_
 refine qE ?_
 refine qC rfl ?_
 refine qA (qD (v := .slice _ _ _) rfl) ?_
 refine qA (wP rfl rfl) ?_
 refine qA (qF (v := .int .i64 _) rfl) ?_
 refine qE ?_
 refine xp_dw [] rfl rfl rfl ?_
 refine qO (i := 0) rfl (by decide +kernel) (qD (v := .slice _ _ _) rfl) ?_
 refine qO (i := 1) rfl (by decide +kernel) (qD (v := .int .i64 _) rfl) ?_
 refine qO (i := 2) rfl (by decide +kernel) (pv_sliceHi p.length rfl rfl rfl rfl rfl (by omega)) ?_
 refine qO (i := 3) rfl (by decide +kernel) (qD (v := .slice _ _ _) rfl) ?_
 refine qO (i := 4) rfl (by decide +kernel) (qD (v := .int .i64 _) rfl) ?_
 refine qO (i := 5) rfl (by decide +kernel) (pv_sliceLo (p.length + 1) rfl rfl rfl rfl rfl (by omega) (by omega)) ?_
 refine dw_last (i := 6) rfl (by decide +kernel) (by decide +kernel) ?_
 refine op_appendIn 0 (m := 1) (cs := p.flatMap intC ++ [Value.int .i64 x] ++ q.flatMap intC ++ J) (cs' := p.flatMap intC ++ q.flatMap intC ++ X) (xs := q.flatMap intC) rfl rfl rfl (fun V => rdIf (p.flatMap intC ++ [Value.int .i64 x]) (q.flatMap intC) J (i := 0) V rfl (by simp only [List.length_append, List.length_cons, List.length_nil]; omega) rfl (fun hne => by have := List.length_pos_iff.2 hne; omega)) (by omega) (flat_plain intP2 q) rfl rfl rfl (by omega) (by simp only [List.length_append, List.length_cons, List.length_nil]; omega) (by rw [Nat.mul_one]; exact hX) ?_
 refine zI [_] rfl ?_
 refine qO (i := 7) rfl (by decide +kernel) (qF (v := .slice _ _ _) rfl) ?_
 refine dw_end rfl ?_
 refine qE ?_
 refine qC rfl ?_
 refine qA (qD (v := .slice _ _ _) rfl) ?_
 refine qA (qD (v := .slice _ _ _) rfl) ?_
 refine qA (wP rfl rfl) ?_
 refine qA (qD (v := .int .i64 _) rfl) ?_
 refine qA (pv_sliceS (p.length + q.length) n (A' := some ⟨b0, p.length + q.length, none⟩) (l' := 0 + 1) (c' := cap - (p.length + q.length)) rfl rfl rfl (by omega) rfl rfl rfl (by omega) (by omega) (slA (by omega)) (by omega) rfl) ?_
 refine op_clearP 0 (m := 1) (z := .int .i64 0) (zc := [Value.int .i64 0]) rfl rfl rfl rfl rfl rfl rfl (by simp only [List.length_append, List.length_cons, List.length_nil]; omega) hY ?_
 refine qH [_] rfl ?_
 refine qE ?_
 refine qC rfl ?_
 refine qA (qD (v := .slice _ _ _) rfl) ?_
 refine qA (qF (v := .slice _ _ _) rfl) ?_
 refine wD ?_
 refine qS (vs := [_]) Tryd.results57 ⟨qM rfl rfl, trivial⟩ fun V => ?_
 obtain ⟨h9, E9, e9, V9⟩ := wl_shed [_] [] V
 exact ⟨h9, [], e9, V9, zL (Ext.refl _) E9, rfl, shed_row e9 (AccP.row (m := 1) (enc := intC) (i := 0) (l := p ++ q) (by show AccP _ _ _ _ (.slice _ (p.length + (n - (p.length + 1))) _); rw [show p.length + (n - (p.length + 1)) = p.length + q.length from by omega]; exact fin) (by omega) (fun _ _ => rfl) V rfl)⟩
end
end Go.Proofs.YtmpahfdiebhdbaaDoor
namespace Go.Proofs.YtmpahfdiebhdbaaDoor
open Go Go.HL Go.Proofs Go.Wx Go.Rd
section
variable [Lvl]
set_option maxRecDepth 100000
theorem ins_ok (l : List Int) (z : Int) (i : Nat) (a : Acc) (b : Nat) (h : AH) (ha : AccR 3 1 (l.flatMap intC) a) (hi : i ≤ l.length) (hl : l.length < 2 ^ 20) :
  FnM Tryd.prog (.func (.func 56) #[] ([] : List Value).toArray) [.slice a.A a.n a.c, .int .i64 (i : Int), .slice (some ⟨b, 0, none⟩) 1 1] h [a.p, some (b, .cells [Value.int .i64 z].toArray 3 (0, 0))] (fun v h' M' => M' = [] ∧ SlR h' 1 intC (l.take i ++ z :: l.drop i) v) := by
 by_cases he : i = l.length
 ·subst he
  rw [List.take_length, List.drop_length]
  exact insE_ok l z a b h ha hl
 ·rcases ha with ⟨h1, h2, _⟩ | ⟨b0, len, cap, junk, h1, h2, h3, h4⟩
  ·exfalso
   have := congrArg List.length h2
   rw [flatI] at this
   simp at this
   subst this
   simp at hi he
   exact he hi
  ·obtain ⟨ap, aA, an, ac⟩ := a
   simp only [Value.slice.injEq] at h2
   obtain ⟨rfl, rfl, rfl⟩ := h2
   simp only at h3
   subst h3
   rw [flatI] at h1
   rw [List.length_append, flatI] at h4
   have e : l.flatMap intC = (l.take i).flatMap intC ++ (l.drop i).flatMap intC := by rw [← List.flatMap_append, List.take_append_drop]
   have hti : (l.take i).length = i := by rw [List.length_take]; omega
   have := insM_ok (l.take i) (l.drop i) z b0 b an ac junk h (by rw [hti, List.length_drop]; omega) (by omega) (List.length_pos_iff.1 (by rw [List.length_drop]; omega)) (by omega)
   rw [hti, ← e] at this
   exact this
theorem delA_ok (l : List Int) (i : Nat) (a : Acc) (h : AH) (ha : AccR 3 1 (l.flatMap intC) a) (hi : i < l.length) (hl : l.length < 2 ^ 20) :
  FnM Tryd.prog (.func (.func 57) #[] ([] : List Value).toArray) [.slice a.A a.n a.c, .int .i64 (i : Int), .int .i64 ((i : Int) + 1)] h [a.p] (fun v h' M' => M' = [] ∧ SlR h' 1 intC (l.take i ++ l.drop (i + 1)) v) := by
 rcases ha with ⟨h1, h2, _⟩ | ⟨b0, len, cap, junk, h1, h2, h3, h4⟩
 ·exfalso
  have := congrArg List.length h2
  rw [flatI] at this
  simp at this
  subst this
  simp at hi
 ·obtain ⟨ap, aA, an, ac⟩ := a
  simp only [Value.slice.injEq] at h2
  obtain ⟨rfl, rfl, rfl⟩ := h2
  simp only at h3
  subst h3
  rw [flatI] at h1
  rw [List.length_append, flatI] at h4
  have e : l.flatMap intC = (l.take i).flatMap intC ++ [Value.int .i64 l[i]] ++ (l.drop (i + 1)).flatMap intC := by
   have e1 : l = l.take i ++ ([l[i]] ++ l.drop (i + 1)) := by simp
   have e2 : [Value.int .i64 l[i]] = [l[i]].flatMap intC := rfl
   rw [e2, List.append_assoc, ← List.flatMap_append, ← List.flatMap_append, ← e1]
  have hti : (l.take i).length = i := by rw [List.length_take]; omega
  have := del_ok (l.take i) (l.drop (i + 1)) l[i] b0 an ac junk h (by rw [hti, List.length_drop]; omega) (by omega) (by omega)
  rw [hti, ← e] at this
  exact this
theorem cloneIntM (l : List Int) (A : Option Addr) (c : Nat) (h : AH) (R : Row h 1 intC A l) (hl : l.length < 2 ^ 20) :
  FnM Tryd.prog (.func (.func 54) #[] ([] : List Value).toArray) [.slice A l.length c] h [] (fun v h' M' => ∃ a : Acc, M' = [a.p] ∧ v = .slice a.A a.n a.c ∧ AccR 3 1 (l.flatMap intC) a) :=
 (cloneIntF l A c h R hl).mono (fun v h' M' _ ⟨p, e, a, e1, e2, e3⟩ => ⟨a, by rw [e, e1], e2, e3⟩)
def putE (l : List Int) (n below : Int) (inn : Bool) : Int := if inM n 0 (below - 1) = false then 3 else if inn = true ∧ n ∈ l then 4 else if inn = false ∧ n ∉ l then 11 else 0
def putL (l : List Int) (n : Int) (inn : Bool) : List Int := if inn = true then (l.filter fun x => decide (x < n)) ++ [n] ++ l.filter (fun x => decide (x > n)) else l.filter fun x => x != n
theorem filt_at {l : List Int} {n : Int} {i : Nat} (a : AtP l n i) : l.take i = l.filter (fun x => decide (x < n)) := by
 have e : l.filter (fun x => decide (x < n)) = (l.take i).filter (fun x => decide (x < n)) ++ (l.drop i).filter (fun x => decide (x < n)) := by rw [← List.filter_append, List.take_append_drop]
 have h1 : (l.take i).filter (fun x => decide (x < n)) = l.take i := List.filter_eq_self.2 fun x hx => by
  obtain ⟨k, hk, rfl⟩ := List.getElem_of_mem hx
  rw [List.length_take] at hk
  rw [List.getElem_take]
  exact decide_eq_true (a.2.1 k (by omega) (by omega))
 have h2 : (l.drop i).filter (fun x => decide (x < n)) = [] := List.filter_eq_nil_iff.2 fun x hx => by
  obtain ⟨k, hk, rfl⟩ := List.getElem_of_mem hx
  rw [List.length_drop] at hk
  rw [List.getElem_drop]
  have := a.2.2 (i + k) (by omega) (by omega)
  simp; omega
 rw [e, h1, h2, List.append_nil]
theorem filt_gt {l : List Int} {n : Int} {i : Nat} (a : AtP l n i) (hn : n ∉ l) : l.drop i = l.filter (fun x => decide (x > n)) := by
 have e : l.filter (fun x => decide (x > n)) = (l.take i).filter (fun x => decide (x > n)) ++ (l.drop i).filter (fun x => decide (x > n)) := by rw [← List.filter_append, List.take_append_drop]
 have h1 : (l.drop i).filter (fun x => decide (x > n)) = l.drop i := List.filter_eq_self.2 fun x hx => by
  have hm : x ∈ l := List.mem_of_mem_drop hx
  obtain ⟨k, hk, rfl⟩ := List.getElem_of_mem hx
  rw [List.length_drop] at hk
  rw [List.getElem_drop] at hm ⊢
  have := a.2.2 (i + k) (by omega) (by omega)
  have hne : ¬ l[i + k] = n := fun e => hn (e ▸ hm)
  simp; omega
 have h2 : (l.take i).filter (fun x => decide (x > n)) = [] := List.filter_eq_nil_iff.2 fun x hx => by
  obtain ⟨k, hk, rfl⟩ := List.getElem_of_mem hx
  rw [List.length_take] at hk
  rw [List.getElem_take]
  have := a.2.1 k (by omega) (by omega)
  simp; omega
 rw [e, h1, h2, List.nil_append]
theorem filt_ne {l : List Int} {n : Int} {i : Nat} (p : l.Pairwise (· < ·)) (a : AtP l n i) (hn : n ∈ l) : i < l.length ∧ l.take i ++ l.drop (i + 1) = l.filter (fun x => x != n) := by
 have hi : i < l.length := by
  obtain ⟨k, hk, e⟩ := List.getElem_of_mem hn
  have := a.1
  rcases Nat.lt_or_ge i l.length with h | h
  ·exact h
  ·have := a.2.1 k hk (by omega); omega
 refine ⟨hi, ?_⟩
 have hat : l[i] = n := ((a.mem hi).resolve_right (fun y => y p)).1 hn
 have e1 : l = l.take i ++ (l[i] :: l.drop (i + 1)) := by simp
 have e : l.filter (fun x => x != n) = (l.take i).filter (fun x => x != n) ++ (l[i] :: l.drop (i + 1)).filter (fun x => x != n) := by rw [← List.filter_append, ← e1]
 have h1 : (l.take i).filter (fun x => x != n) = l.take i := List.filter_eq_self.2 fun x hx => by
  obtain ⟨k, hk, rfl⟩ := List.getElem_of_mem hx
  rw [List.length_take] at hk
  rw [List.getElem_take]
  have := a.2.1 k (by omega) (by omega)
  simp; omega
 have h2 : (l.drop (i + 1)).filter (fun x => x != n) = l.drop (i + 1) := List.filter_eq_self.2 fun x hx => by
  obtain ⟨k, hk, rfl⟩ := List.getElem_of_mem hx
  rw [List.length_drop] at hk
  rw [List.getElem_drop]
  have := List.pairwise_iff_getElem.1 p i (i + 1 + k) hi (by omega) (by omega)
  simp; omega
 rw [e, h1, List.filter_cons_of_neg (by simp [hat]), h2]
theorem put_ok (l : List Int) (n below : Int) (inn : Bool) (A : Option Addr) (c : Nat) (h : AH) (R : Row h 1 intC A l) (hl : l.length < 2 ^ 20) (p : l.Pairwise (· < ·)) (hb : 0 ≤ below ∧ below < 2 ^ 20) :
  FnE Tryd.prog 35 #[.slice A l.length c, .int .i64 n, .int .i64 below, .bool inn] h (fun v h' => putE l n below inn = 0 ∧ SlR h' 1 intC (putL l n inn) v) (fun v _ => putE l n below inn ≠ 0 ∧ v = .iface 78 (.agg #[.int .i64 (putE l n below inn)])) := by
 refine wL Tryd.func35 rfl Tryd.ntmps35 rfl ?_
 refine qE ?_
 refine qC rfl ?_
 refine qA (qF (v := .slice _ _ _) rfl) ?_
 refine qE ?_
 refine qE ?_
 refine qC rfl ?_
 refine qA (qD (v := .int .i64 _) rfl) ?_
 refine qA (qD (v := .int .i64 _) rfl) ?_
 refine qA (qX rfl (by omega)) ?_
 refine qV (caps := []) (vs := [.int .i64 _, .int .i64 _, .int .i64 _]) rfl rfl rfl (within_ok n 0 (below - 1) h) ?_
 rintro _ h1 E1 rfl
 refine qA (qJ (v := .bool _) rfl) ?_
 refine wA rfl (fun hw => ?_) (fun hw => ?_)
 ·skip
  have hw' : inM n 0 (below - 1) = false := by simpa using hw
  have hE : putE l n below inn = 3 := if_pos hw'
  refine qC rfl ?_
  refine qA (wX (zc := [_]) (vs := [(0, .int .i64 _)]) (cs := [_]) rfl rfl rfl rfl rfl rfl) ?_
  refine qA (qJ (v := _) rfl) ?_
  refine op_panic rfl ?_
  exact fun V => ⟨rfl, (zL E1 (qZ V)), by rw [hE]; decide, by rw [hE]; rfl⟩
 ·skip
  have hw' : inM n 0 (below - 1) = true := by simpa using hw
  have hw2 : ¬ inM n 0 (below - 1) = false := by rw [hw']; decide
  refine qP ?_
  refine qE ?_
  refine qC rfl ?_
  refine qA (qD (v := .slice _ _ _) rfl) ?_
  refine qA (qD (v := .int .i64 _) rfl) ?_
  refine qV (caps := []) (vs := [.slice _ _ _, .int .i64 _]) rfl rfl rfl (search_ok l n A c h1 (R.ext E1) hl p) ?_
  rintro _ h2 E2 ⟨i, rfl, AT⟩
  refine qA (qD (v := .tuple #[.int .i64 _, .bool _]) rfl) ?_
  refine qA (qJ (v := .int .i64 _) rfl) ?_
  refine qA (qJ (v := .bool _) rfl) ?_
  refine qA (qF (v := .int .i64 _) rfl) ?_
  refine qA (qF (v := .bool _) rfl) ?_
  by_cases hm : n ∈ l
  ·have hd := decide_eq_true hm
   cases inn
   ·obtain ⟨hil, hfi⟩ := filt_ne p AT hm
    have hE : putE l n below false = 0 := by unfold putE; rw [if_neg hw2, if_neg (by simp), if_neg (by simp [hm])]
    refine qE ?_
    refine qT ?_
    refine qE ?_
    refine qC rfl ?_
    refine qA (qD (v := .bool _) rfl) ?_
    refine qA (qD (v := .bool _) rfl) ?_
    refine qR rfl rfl ?_
    refine qA (wI rfl rfl (v := .bool _) rfl) ?_
    refine qA (qF (v := .bool _) rfl) ?_
    refine wO rfl (rfl) ?_
    refine qE ?_
    refine qC rfl ?_
    refine qA (qD (v := .bool _) rfl) ?_
    refine qA (qJ (v := .bool _) rfl) ?_
    refine qA (qD (v := .bool _) rfl) ?_
    refine qG rfl rfl ?_
    refine qA (qD (v := .bool _) rfl) ?_
    refine qG rfl rfl ?_
    refine qA (qJ (v := .bool _) rfl) ?_
    refine qA (wV rfl rfl (v := .bool _) rfl) ?_
    refine qA (qF (v := .bool _) rfl) ?_
    refine wO rfl ((by rw [hd]; rfl)) ?_
    refine qE ?_
    refine qC rfl ?_
    refine qA (qD (v := .bool _) rfl) ?_
    refine qA (qF (v := .bool _) rfl) ?_
    refine wO rfl (rfl) ?_
    refine qP ?_
    refine qE ?_
    refine qC rfl ?_
    refine qA (qD (v := .slice _ _ _) rfl) ?_
    refine op_fnMM [] [] [] rfl rfl rfl (cloneIntM l A c h2 (R.ext (zL E1 E2)) hl) ?_
    rintro _ h3 M3 E3 ⟨a, rfl, rfl, ha⟩
    refine qH [_] rfl ?_
    refine qA (qD (v := .int .i64 _) rfl) ?_
    refine qA (qD (v := .int .i64 _) rfl) ?_
    refine qA (qX rfl (by omega)) ?_
    refine op_fnMM [] [_] [] (vs := [.slice _ _ _, .int .i64 _, .int .i64 _]) rfl rfl rfl (delA_ok l i a h3 ha hil hl) ?_
    rintro _ h4 M4 E4 ⟨rfl, A4, c4, rfl, R4⟩
    refine qH [] rfl ?_
    refine qA (qF (v := .slice _ _ _) rfl) ?_
    refine wD ?_
    refine qS (vs := [_]) Tryd.results35 ⟨qM rfl rfl, trivial⟩ fun V => ?_
    exact ⟨(zL (zL (zL (zL E1 E2) E3) E4) (qZ V)), hE, by show SlR _ 1 intC (l.filter fun x => x != n) _; rw [← hfi]; exact ⟨A4, c4, rfl, R4⟩⟩
   ·skip
    have hE : putE l n below true = 4 := by unfold putE; rw [if_neg hw2, if_pos ⟨rfl, hm⟩]
    refine qE ?_
    refine qT ?_
    refine qE ?_
    refine qC rfl ?_
    refine qA (qD (v := .bool _) rfl) ?_
    refine qA (qD (v := .bool _) rfl) ?_
    refine qG rfl rfl ?_
    refine qA (qD (v := .bool _) rfl) ?_
    refine qA (wV rfl rfl (v := .bool _) rfl) ?_
    refine qA (qF (v := .bool _) rfl) ?_
    refine wY rfl (hd) ?_
    refine qC rfl ?_
    refine qA (wX (zc := [_]) (vs := [(0, .int .i64 _)]) (cs := [_]) rfl rfl rfl rfl rfl rfl) ?_
    refine qA (qJ (v := _) rfl) ?_
    refine op_panic rfl ?_
    exact fun V => ⟨rfl, (zL (zL E1 E2) (qZ V)), by rw [hE]; decide, by rw [hE]; rfl⟩
  ·have hd := decide_eq_false hm
   cases inn
   ·skip
    have hE : putE l n below false = 11 := by unfold putE; rw [if_neg hw2, if_neg (by simp), if_pos ⟨rfl, hm⟩]
    refine qE ?_
    refine qT ?_
    refine qE ?_
    refine qC rfl ?_
    refine qA (qD (v := .bool _) rfl) ?_
    refine qA (qD (v := .bool _) rfl) ?_
    refine qR rfl rfl ?_
    refine qA (wI rfl rfl (v := .bool _) rfl) ?_
    refine qA (qF (v := .bool _) rfl) ?_
    refine wO rfl (rfl) ?_
    refine qE ?_
    refine qC rfl ?_
    refine qA (qD (v := .bool _) rfl) ?_
    refine qA (qJ (v := .bool _) rfl) ?_
    refine qA (qD (v := .bool _) rfl) ?_
    refine qG rfl rfl ?_
    refine qA (qD (v := .bool _) rfl) ?_
    refine qG rfl rfl ?_
    refine qA (qJ (v := .bool _) rfl) ?_
    refine qA (wV rfl rfl (v := .bool _) rfl) ?_
    refine qA (qF (v := .bool _) rfl) ?_
    refine wY rfl ((by rw [hd]; rfl)) ?_
    refine qC rfl ?_
    refine qA (wX (zc := [_]) (vs := [(0, .int .i64 _)]) (cs := [_]) rfl rfl rfl rfl rfl rfl) ?_
    refine qA (qJ (v := _) rfl) ?_
    refine op_panic rfl ?_
    exact fun V => ⟨rfl, (zL (zL E1 E2) (qZ V)), by rw [hE]; decide, by rw [hE]; rfl⟩
   ·skip
    have hE : putE l n below true = 0 := by unfold putE; rw [if_neg hw2, if_neg (by simp [hm]), if_neg (by simp)]
    refine qE ?_
    refine qT ?_
    refine qE ?_
    refine qC rfl ?_
    refine qA (qD (v := .bool _) rfl) ?_
    refine qA (qD (v := .bool _) rfl) ?_
    refine qG rfl rfl ?_
    refine qA (qD (v := .bool _) rfl) ?_
    refine qA (wV rfl rfl (v := .bool _) rfl) ?_
    refine qA (qF (v := .bool _) rfl) ?_
    refine wO rfl (hd) ?_
    refine qE ?_
    refine qC rfl ?_
    refine qA (qD (v := .bool _) rfl) ?_
    refine qA (qJ (v := .bool _) rfl) ?_
    refine qA (qD (v := .bool _) rfl) ?_
    refine qR rfl rfl ?_
    refine qR rfl rfl ?_
    refine qA (wI rfl rfl (v := .bool _) rfl) ?_
    refine qA (qF (v := .bool _) rfl) ?_
    refine wO rfl (rfl) ?_
    refine qE ?_
    refine qC rfl ?_
    refine qA (qD (v := .bool _) rfl) ?_
    refine qA (qF (v := .bool _) rfl) ?_
    refine wY rfl (rfl) ?_
    refine qE ?_
    refine qC rfl ?_
    refine qA (qD (v := .slice _ _ _) rfl) ?_
    refine op_fnMM [] [] [] rfl rfl rfl (cloneIntM l A c h2 (R.ext (zL E1 E2)) hl) ?_
    rintro _ h3 M3 E3 ⟨a, rfl, rfl, ha⟩
    refine qH [_] rfl ?_
    refine qA (qD (v := .int .i64 _) rfl) ?_
    refine qA (qD (v := .int .i64 _) rfl) ?_
    refine qK (zc := [_]) (vs := [(0, .int .i64 _)]) (cs := [_]) rfl rfl rfl rfl rfl rfl rfl fun b46 hb46 => ?_
    refine qH [_, _] rfl ?_
    refine op_fnMM [] [_, _] [] (vs := [.slice _ _ _, .int .i64 _, .slice _ _ _]) rfl rfl rfl (ins_ok l n i a b46 h3 ha AT.1 hl) ?_
    rintro _ h4 M4 E4 ⟨rfl, A4, c4, rfl, R4⟩
    refine qH [] rfl ?_
    refine qA (qF (v := .slice _ _ _) rfl) ?_
    refine wD ?_
    refine qS (vs := [_]) Tryd.results35 ⟨qM rfl rfl, trivial⟩ fun V => ?_
    exact ⟨(zL (zL (zL (zL E1 E2) E3) E4) (qZ V)), hE, by show SlR _ 1 intC ((l.filter fun x => decide (x < n)) ++ [n] ++ l.filter (fun x => decide (x > n))) _; rw [← filt_at AT, ← filt_gt AT hm, List.append_assoc]; exact ⟨A4, c4, rfl, R4⟩⟩
end
end Go.Proofs.YtmpahfdiebhdbaaDoor
namespace Go.HL
open Go Go.Wx Go.RowKit Go.ChangeShapes Go.WideShapes
variable [Lvl]
section
variable {H : Type} {enc : TypeId × Value → H} {P : Program} {w : World} {base : Nat} {spare : Nat → Bool} {held : Bool}
end
end Go.HL
namespace Go.Rd
structure EvP where
 kind : Int
 which : Int
def evC (e : EvP) : List Go.Value := [.int .i64 e.kind, .int .i64 e.which]
end Go.Rd
namespace Go.Proofs.YtmpahfdiebhdbaaDoor
open Go Go.HL Go.Wx Go.Rd Go.RowKit Go.ChangeShapes Go.WideShapes
variable [Lvl]
set_option maxRecDepth 100000
section
variable {H : Type} {enc : TypeId × Value → H} {w : World} {base : Nat} {spare : Nat → Bool} {held : Bool}
end
end Go.Proofs.YtmpahfdiebhdbaaDoor
namespace Go.Proofs.YtmpahfdiebhdbaaDoor
open Go Go.HL Go.Proofs Go.Wx Go.Rd
section
variable [Lvl]
set_option maxRecDepth 100000
def stepE (m : MachP) (a : HandP) (x : EvP) : Int := if x.kind = 1 ∨ x.kind = 2 then putE a.buttons x.which m.buttons.length (x.kind == 1) else if x.kind = 3 ∨ x.kind = 4 then putE a.on x.which m.regs (x.kind == 3) else 8
def stepH (a : HandP) (x : EvP) : HandP := if x.kind = 1 ∨ x.kind = 2 then ⟨putL a.buttons x.which (x.kind == 1), a.on⟩ else ⟨a.buttons, putL a.on x.which (x.kind == 3)⟩
structure PlP where
 e : Int
 a : HandP
 out : List (List Int)
def playS (m : MachP) (s : PlP) (x : EvP) : PlP := if s.e ≠ 0 then s else if stepE m s.a x ≠ 0 then ⟨stepE m s.a x, s.a, []⟩ else ⟨0, stepH s.a x, s.out ++ [listN (soundsM m (stepH s.a x) m.travel) 6]⟩
def goM (m : MachP) (l : List EvP) : PlP := l.foldl (playS m) ⟨0, ⟨[], []⟩, []⟩
def playM (m : MachP) (l : List EvP) : Int × List (List Int) := if chkM m ≠ 0 then (chkM m, []) else if (l.length : Int) > 12 then (6, []) else ((goM m l).e, (goM m l).out)
theorem goM_snoc (m : MachP) {l : List EvP} {k : Nat} (hk : k < l.length) : goM m (l.take (k + 1)) = playS m (goM m (l.take k)) l[k] := by
 rw [goM, take_snoc hk, List.foldl_append]; rfl
theorem playS_stop {m : MachP} {s : PlP} (h : s.e ≠ 0) : ∀ l : List EvP, l.foldl (playS m) s = s
 | [] => rfl
 | x :: l => by rw [List.foldl_cons, playS, if_pos h, playS_stop h l]
theorem goM_bad (m : MachP) {l : List EvP} {k : Nat} (hk : k < l.length) (h0 : (goM m (l.take k)).e = 0) (h : stepE m (goM m (l.take k)).a l[k] ≠ 0) : goM m l = ⟨stepE m (goM m (l.take k)).a l[k], (goM m (l.take k)).a, []⟩ := by
 have e : goM m (l.take (k + 1)) = ⟨stepE m (goM m (l.take k)).a l[k], (goM m (l.take k)).a, []⟩ := by rw [goM_snoc m hk, playS, if_neg (by simp [h0]), if_pos h]
 have e2 : goM m l = (l.drop (k + 1)).foldl (playS m) (goM m (l.take (k + 1))) := by
  unfold goM
  rw [← List.foldl_append, List.take_append_drop]
 rw [e2, playS_stop (by rw [e]; exact h), e]
theorem goM_good (m : MachP) {l : List EvP} {k : Nat} (hk : k < l.length) (h0 : (goM m (l.take k)).e = 0) (h : stepE m (goM m (l.take k)).a l[k] = 0) : goM m (l.take (k + 1)) = ⟨0, stepH (goM m (l.take k)).a l[k], (goM m (l.take k)).out ++ [listN (soundsM m (stepH (goM m (l.take k)).a l[k]) m.travel) 6]⟩ := by
 rw [goM_snoc m hk, playS, if_neg (by simp [h0]), if_neg (by simp [h])]
theorem putL_ok {l : List Int} {n below : Int} {inn : Bool} (s : SetOK l below) (h : putE l n below inn = 0) : SetOK (putL l n inn) below := by
 unfold putE at h
 by_cases h1 : inM n 0 (below - 1) = false
 ·rw [if_pos h1] at h; cases h
 ·rw [if_neg h1] at h
  have h1' : inM n 0 (below - 1) = true := by simpa using h1
  rw [inM_iff] at h1'
  unfold putL
  by_cases hi : inn = true
  ·rw [if_pos hi]
   refine ⟨fun x hx => ?_, ?_⟩
   ·rw [List.mem_append, List.mem_append, List.mem_singleton] at hx
    rcases hx with (hx | rfl) | hx
    ·exact s.mem x (List.mem_filter.1 hx).1
    ·omega
    ·exact s.mem x (List.mem_filter.1 hx).1
   ·rw [List.append_assoc, List.pairwise_append]
    refine ⟨s.asc.filter _, ?_, ?_⟩
    ·rw [List.singleton_append, List.pairwise_cons]
     exact ⟨fun x hx => of_decide_eq_true (List.mem_filter.1 hx).2, s.asc.filter _⟩
    ·intro x hx y hy
     have hxn := of_decide_eq_true (List.mem_filter.1 hx).2
     rw [List.singleton_append, List.mem_cons] at hy
     rcases hy with rfl | hy
     ·exact hxn
     ·have := of_decide_eq_true (List.mem_filter.1 hy).2
      omega
  ·rw [if_neg hi]
   exact ⟨fun x hx => s.mem x (List.mem_filter.1 hx).1, s.asc.filter _⟩
theorem stepH_ok {m : MachP} {a : HandP} {x : EvP} (H : HOK m a) (h : stepE m a x = 0) : HOK m (stepH a x) := by
 unfold stepE at h
 unfold stepH
 by_cases h1 : x.kind = 1 ∨ x.kind = 2
 ·rw [if_pos h1] at h ⊢; exact ⟨putL_ok H.b h, H.o⟩
 ·rw [if_neg h1] at h ⊢
  by_cases h2 : x.kind = 3 ∨ x.kind = 4
  ·rw [if_pos h2] at h; exact ⟨H.b, putL_ok H.o h⟩
  ·rw [if_neg h2] at h; cases h
theorem hok0 (m : MachP) : HOK m ⟨[], []⟩ := ⟨⟨fun _ h => absurd h List.not_mem_nil, List.Pairwise.nil⟩, ⟨fun _ h => absurd h List.not_mem_nil, List.Pairwise.nil⟩⟩
theorem goM_len (m : MachP) (l : List EvP) : (goM m l).out.length ≤ l.length := by
 have : ∀ (l : List EvP) (s : PlP), (l.foldl (playS m) s).out.length ≤ s.out.length + l.length := by
  intro l
  induction l with
  | nil => intro s; exact Nat.le_refl _
  | cons x l ih =>
   intro s
   rw [List.foldl_cons]
   refine Nat.le_trans (ih _) ?_
   unfold playS
   split
   ·simp
   ·split
    ·simp; omega
    ·simp; omega
 have := this l ⟨0, ⟨[], []⟩, []⟩
 simpa [goM] using this
theorem playClo_nil (b4 b5 : Nat) (L : Pv) (h : AH) (Q : Pv → AH → Prop) (q : Q L h) : Clo Tryd.prog 18 (bodyOps Tryd.f34) (bodyRest Tryd.f34) 5 .nilIface #[.pointer (some ⟨b4, 0, none⟩), .pointer (some ⟨b5, 0, none⟩)] L h Q := by
 refine ⟨rfl, ?_⟩
 refine clo_run rfl rfl rfl ?_
 refine qA (qF (v := _) rfl) ?_
 refine qE ?_
 refine qC rfl ?_
 refine qA (qD (v := _) rfl) ?_
 refine qA (qJ (v := .bool _) rfl) ?_
 refine wO rfl (rfl) ?_
 refine qP ?_
 exact ⟨.inl rfl, rfl, q⟩
theorem playClo_pan (b4 b5 : Nat) (e : Int) (p0 p3 p4 p5 : Option (Nat × Obj)) (v4 v5 : Value) (h : AH) (Q : Pv → AH → Prop)
  (q : ∀ b3 o3, Q [p0, some (b4, .cells #[.slice none 0 0] 37 (0, 0)), some (b5, .cells #[.int .i64 e] 31 (0, 0)), p3, p4, p5, some (b3, o3)] h) :
  Clo Tryd.prog 18 (bodyOps Tryd.f34) (bodyRest Tryd.f34) 5 (.iface 78 (.agg #[.int .i64 e])) #[.pointer (some ⟨b4, 0, none⟩), .pointer (some ⟨b5, 0, none⟩)] [p0, some (b4, .cells #[v4] 37 (0, 0)), some (b5, .cells #[v5] 31 (0, 0)), p3, p4, p5] h Q := by
 refine ⟨rfl, ?_⟩
 obtain ⟨K, hK⟩ : ∃ K : Post, K = (fun e (_ : Sl) D L' h' => (e = .normal ∨ e = .ret) ∧ D = [] ∧ Q L' h') := ⟨_, rfl⟩
 rw [← hK]
 refine clo_run rfl rfl rfl ?_
 refine qA (qF (v := _) rfl) ?_
 refine qE ?_
 refine qC rfl ?_
 refine qA (qD (v := _) rfl) ?_
 refine qA (qJ (v := .bool _) rfl) ?_
 refine wY rfl (rfl) ?_
 refine qE ?_
 refine qC rfl ?_
 refine qA (qD (v := _) rfl) ?_
 refine qA (pv_assert (v := .agg #[.int .i64 _]) rfl rfl rfl) ?_
 refine qA (qD (v := .tuple #[.agg #[.int .i64 _], .bool _]) rfl) ?_
 refine qA (qJ (v := .agg #[.int .i64 _]) rfl) ?_
 refine qA (qJ (v := .bool _) rfl) ?_
 refine wW (cs := [_]) rfl rfl fun b3 hb3 => ?_
 refine qH [_, _, _, _, _, _, _] rfl ?_
 refine wG 6 (v := .agg #[.int .i64 _]) (vs := [_]) (c' := [_]) rfl rfl rfl rfl rfl rfl rfl rfl rfl ?_
 refine qH [_, _, _, _, _, _, _] rfl ?_
 refine qA (qF (v := .bool _) rfl) ?_
 refine qE ?_
 refine qE ?_
 refine qC rfl ?_
 refine qA (qD (v := .bool _) rfl) ?_
 refine qA (qJ (v := .bool _) rfl) ?_
 refine wO rfl (rfl) ?_
 refine qP ?_
 refine xp_dw [false, true, true, false, false, false, false] rfl rfl rfl ?_
 refine qO (i := 0) rfl (by decide +kernel) (qI rfl rfl rfl rfl 0 rfl) ?_
 refine wQ (i := 1) rfl (by decide +kernel) ?_
 refine qN 6 (v := .int .i64 _) rfl rfl rfl rfl ?_
 refine dw_eff (i := 2) rfl (by decide +kernel) ?_
 refine wG 1 (v := .slice _ _ _) (vs := [_]) (c' := [_]) rfl rfl rfl rfl rfl rfl rfl rfl rfl ?_
 refine ⟨Ext.refl _, ?_⟩
 refine zI [_, _, _, _, _, _, _] rfl ?_
 refine dw_last (i := 3) rfl (by decide +kernel) (by decide +kernel) ?_
 refine wG 2 (v := .int .i64 _) (vs := [_]) (c' := [_]) rfl rfl rfl rfl rfl rfl rfl rfl rfl ?_
 refine zI [_, _, _, _, _, _, _] rfl ?_
 refine dw_end rfl ?_
 rw [hK]
 exact ⟨.inl rfl, rfl, q _ _⟩
end
end Go.Proofs.YtmpahfdiebhdbaaDoor
namespace Go.Proofs.YtmpahfdiebhdbaaDoor
open Go Go.HL Go.Proofs Go.Wx Go.Rd
section
variable [Lvl]
set_option maxRecDepth 100000
set_option maxHeartbeats 1000000 in
theorem Play_ok (hph : Lvl.ph = true) (m : MachP) (l : List EvP) (AB AQ AL AW EA : Option Addr) (cB cQ cL cW cE : Nat) (h : AH) (RM : MachR h AB AQ AL AW m) (RE : Row h 2 evC EA l) (h0 : m.weights.length < 2 ^ 40) (hl : l.length < 2 ^ 40) :
  FnT Tryd.prog 15 #[machV AB AQ AL AW cB cQ cL cW m, .slice EA l.length cE] h (fun v h' => ∃ V, v = .tuple #[V, .int .i64 (playM m l).1] ∧ SlX h' 1 TL (playM m l).2 V) := by
 refine call_defer Tryd.func15 rfl Tryd.ntmps15 rfl (ops0 := bodyOps Tryd.f34) (c2 := bodyRest Tryd.f34) (m := 18) (t := 5) Tryd.func34 (by kernel_rfl) rfl Tryd.ntmps34 rfl rfl rfl rfl rfl rfl ?_
 refine qE ?_
 refine qC rfl ?_
 refine op_box (v := .agg #[.int .i64 _, .int .i64 _, .int .i64 _, .int .i64 _, .int .i64 _, .slice _ _ _, .slice _ _ _, .slice _ _ _, .slice _ _ _]) (cs := [_, _, _, _, _, _, _, _, _]) rfl rfl fun b2 hb2 => ?_
 refine qH [_] rfl ?_
 refine wW (cs := [_]) rfl rfl fun b4 hb4 => ?_
 refine qH [_, _] rfl ?_
 refine wW (cs := [_]) rfl rfl fun b5 hb5 => ?_
 refine qH [_, _, _] rfl ?_
 refine qE ?_
 refine qE ?_
 refine qC rfl ?_
 refine wH 0 (vs := [.int .i64 _, .int .i64 _, .int .i64 _, .int .i64 _, .int .i64 _, .slice _ _ _, .slice _ _ _, .slice _ _ _, .slice _ _ _]) rfl rfl rfl rfl rfl ?_
 refine qV (caps := []) (vs := [.agg #[.int .i64 _, .int .i64 _, .int .i64 _, .int .i64 _, .int .i64 _, .slice _ _ _, .slice _ _ _, .slice _ _ _, .slice _ _ _]]) rfl rfl rfl (Check_ok m AB AQ AL AW cB cQ cL cW h (RM.ext (Ext.refl _)) h0) ?_
 rintro _ h1 E1 rfl
 refine qA (qF (v := .int .i64 _) rfl) ?_
 refine qE ?_
 refine qC rfl ?_
 refine qA (qD (v := .int .i64 _) rfl) ?_
 refine qA (qJ (v := .bool _) rfl) ?_
 refine wA rfl (fun hc => ?_) (fun hc => ?_)
 ·skip
  have hc' : chkM m ≠ 0 := by simpa using hc
  refine qE ?_
  refine qC rfl ?_
  refine qA (qD (v := .int .i64 _) rfl) ?_
  refine wG 1 (v := .slice _ _ _) (vs := [_]) (c' := [_]) rfl rfl rfl rfl rfl rfl rfl rfl rfl ?_
  refine qH [_, _, _] rfl ?_
  refine wG 2 (v := .int .i64 _) (vs := [_]) (c' := [_]) rfl rfl rfl rfl rfl rfl rfl rfl rfl ?_
  refine qH [_, _, _] rfl ?_
  refine wD ?_
  exact .inl ⟨rfl, doneK_list (vs := [_, _]) Tryd.results15 ⟨resV_one 1 rfl rfl rfl rfl (v := .slice _ _ _) rfl, resV_one 2 rfl rfl rfl rfl (v := .int .i64 _) rfl, trivial⟩ (fun V => ⟨(zL E1 (qZ V)), _, by rw [playM, if_pos hc']; rfl, by rw [playM, if_pos hc']; exact SlX.nil _ _ _ _ _⟩)⟩
 ·skip
  have hc' : ¬ chkM m ≠ 0 := by simpa using hc
  refine qP ?_
  refine qE ?_
  refine qE ?_
  refine qC rfl ?_
  refine qA (qD (v := .slice _ _ _) rfl) ?_
  refine qA (wP rfl rfl) ?_
  refine qA (qJ (v := .bool _) rfl) ?_
  refine wA rfl (fun hm => ?_) (fun hm => ?_)
  ·skip
   have hm' : (l.length : Int) > 12 := of_decide_eq_true hm
   refine qE ?_
   refine qC rfl ?_
   refine wG 1 (v := .slice _ _ _) (vs := [_]) (c' := [_]) rfl rfl rfl rfl rfl rfl rfl rfl rfl ?_
   refine qH [_, _, _] rfl ?_
   refine wG 2 (v := .int .i64 _) (vs := [_]) (c' := [_]) rfl rfl rfl rfl rfl rfl rfl rfl rfl ?_
   refine qH [_, _, _] rfl ?_
   refine wD ?_
   exact .inl ⟨rfl, doneK_list (vs := [_, _]) Tryd.results15 ⟨resV_one 1 rfl rfl rfl rfl (v := .slice _ _ _) rfl, resV_one 2 rfl rfl rfl rfl (v := .int .i64 _) rfl, trivial⟩ (fun V => ⟨(zL E1 (qZ V)), _, by rw [playM, if_neg hc', if_pos hm']; rfl, by rw [playM, if_neg hc', if_pos hm']; exact SlX.nil _ _ _ _ _⟩)⟩
  ·skip
   have hm' : ¬ (l.length : Int) > 12 := of_decide_eq_false hm
   refine qP ?_
   refine qE ?_
   refine xp_regionD rfl rfl ?_
   refine qA (pv_makeFunc (vs := []) (ws := [_, _]) rfl rfl) ?_
   refine goes_deferF rfl rfl rfl rfl ?_
   refine goes_end ?_
   refine wE [_, _, _] rfl ?_
   have M := check_ok (by simpa using hc' : chkM m = 0)
   have tr := M.travel
   have hbl := M.bl
   have hrg := M.regs
   refine goes_more ?_
   refine wE [_, _, _, _] rfl ?_
   refine qE ?_
   refine qC rfl ?_
   refine wH 0 (vs := [.int .i64 _, .int .i64 _, .int .i64 _, .int .i64 _, .int .i64 _, .slice _ _ _, .slice _ _ _, .slice _ _ _, .slice _ _ _]) rfl rfl rfl rfl rfl ?_
   refine qV (caps := []) (vs := [.agg #[.int .i64 _, .int .i64 _, .int .i64 _, .int .i64 _, .int .i64 _, .slice _ _ _, .slice _ _ _, .slice _ _ _, .slice _ _ _]]) rfl rfl rfl (sounding_ok m AB AQ AL AW cB cQ cL cW h1 (RM.ext E1)) ?_
   rintro _ h2 E2 ⟨bs, AB1, AQ1, AL1, AW1, cB1, cQ1, cL1, cW1, rfl, CM, RM1⟩
   refine qA (qF (v := _) rfl) ?_
   refine qE ?_
   refine qC rfl ?_
   refine wW (cs := [_, _]) rfl rfl fun b8 hb8 => ?_
   refine qH [_, _, _, _, _] rfl ?_
   refine qE ?_
   refine qE ?_
   refine qC rfl ?_
   refine qA (qD (v := .slice _ _ _) rfl) ?_
   refine qA (wP rfl rfl) ?_
   refine qA (qD (v := .int .i64 _) rfl) ?_
   refine qT ?_
   refine xp_loopL [10, 24, 25, 26, 27, 28, 29, 30, 31, 32, 33, 34, 35, 36, 37, 38, 39, 40, 41, 42, 43, 44, 45, 46, 47, 48, 49, 50, 51, 52, 53, 54, 55, 56, 57, 58, 59, 60, 61, 62, 63, 64, 65, 66, 67, 68, 69, 70] 5 (α := Nat × Acc × List (List Value) × HandP × Option Addr × Nat × Option Addr × Nat) (fun ⟨k, a, gs, hd, HA, cH, OA, cO⟩ => [(24, .int .i64 k)]) (fun ⟨k, a, gs, hd, HA, cH, OA, cO⟩ L => ((L.set 1 (some (b4, .cells #[.slice a.A a.n a.c] 37 (0, 0)))).set 3 (a.p)).set 4 (some (b8, .cells #[.slice HA hd.buttons.length cH, .slice OA hd.on.length cO] 34 (0, 0)))) (fun ⟨k, a, gs, hd, HA, cH, OA, cO⟩ h_k => k ≤ l.length ∧ (goM m (l.take k)).e = 0 ∧ (goM m (l.take k)).a = hd ∧ HOK m hd ∧ HandR h_k HA OA hd ∧ AccR 22 1 (gs.flatMap id) a ∧ Els h_k TL (goM m (l.take k)).out gs ∧ ∀ x ∈ gs, x.length = 1) (fun ⟨k, a, gs, hd, HA, cH, OA, cO⟩ => l.length - k) ((0, acc0, [], ⟨[], []⟩, none, 0, none, 0)) ⟨rfl, trivial⟩ (rfl) (⟨Nat.zero_le _, rfl, rfl, hok0 m, ⟨⟨fun _ _ => rfl, Rd.nil _ _⟩, ⟨fun _ _ => rfl, Rd.nil _ _⟩⟩, accR0, Els.nil _ _, fun _ hx => absurd hx List.not_mem_nil⟩) ?_
   rintro ⟨k, a, gs, hd, HA, cH, OA, cO⟩ T1 h_k E_k J_k
   refine wE [_, _, _, _, _] rfl ?_
   obtain ⟨K1, K2, K3, K4, K5, K6, K7, K8⟩ := J_k
   refine qE ?_
   refine qC rfl ?_
   refine qA (qJ (v := .bool _) rfl) ?_
   refine qE ?_
   refine wA rfl (fun hk => ?_) (fun hk => ?_)
   ·skip
    have hkl : k < l.length := ltI hk
    obtain ⟨g, off, hA, hcE⟩ := (RE.ext (zL (zL E1 E2) E_k)).at (by omega) hkl
    have hb1 := set_len K4.b
    have ho1 : hd.on.length ≤ m.regs.toNat := set_len (below := m.regs.toNat) (by have := K4.o; rwa [← Int.toNat_of_nonneg hrg.1] at this)
    refine qP ?_
    refine qE ?_
    refine qT ?_
    refine qE ?_
    refine qC rfl ?_
    refine qA (wU rfl hA rfl rfl rfl (by omega) (by omega)) ?_
    refine op_loadA rfl rfl rfl rfl (hcE) ?_
    refine wW (cs := [_, _]) rfl rfl fun b10 hb10 => ?_
    refine qH [_, _, _, _, _, _] rfl ?_
    refine wG 5 (v := .agg #[.int .i64 _, .int .i64 _]) (vs := [_, _]) (c' := [_, _]) rfl rfl rfl rfl rfl rfl rfl rfl rfl ?_
    refine qH [_, _, _, _, _, _] rfl ?_
    refine xp_cutB [28, 29, 30, 31, 32, 33, 34, 35, 36, 37, 38, 39, 40, 41, 42, 43, 44, 45, 46, 47, 48, 49, 50, 51, 52, 53, 54, 55, 56, 57, 58, 59, 60] 6 (α := Option Addr × Nat × Option Addr × Nat) (fun ⟨H9, c9, O9, d9⟩ => []) (fun ⟨H9, c9, O9, d9⟩ L => L.set 4 (some (b8, .cells #[.slice H9 (stepH hd l[k]).buttons.length c9, .slice O9 (stepH hd l[k]).on.length d9] 34 (0, 0)))) (fun ⟨H9, c9, O9, d9⟩ h_H9 => stepE m hd l[k] = 0 ∧ HandR h_H9 H9 O9 (stepH hd l[k])) ?_ ?_
    ·skip
     refine qE ?_
     refine qC rfl ?_
     refine qA (qI rfl rfl rfl rfl 0 rfl) ?_
     refine qN 5 (v := .int .i64 _) rfl rfl rfl rfl ?_
     refine qT ?_
     refine xp_cutB [32, 33, 34] 6 (α := Unit) (fun u => [(32, .bool (decide (l[k].kind = 1 ∨ l[k].kind = 2)))]) (fun u L => L) (fun u h_u => True) ?_ ?_
     ·skip
      refine qE ?_
      refine qC rfl ?_
      refine qA (qJ (v := .bool _) rfl) ?_
      refine qA (qF (v := .bool _) rfl) ?_
      refine wA rfl (fun q1 => ?_) (fun q1 => ?_)
      ·skip
       have q1' : l[k].kind = 1 := by simpa using q1
       refine qP ?_
       refine ⟨(), ⟨(by show Value.bool _ = _; rw [q1, decide_eq_true (.inl q1')]), trivial⟩, rfl, rfl, (Ext.refl _), fun h3 E3 => by first | trivial | omega | (refine ⟨?_, ?_⟩ <;> omega), ?_⟩
       repeat (first | exact zG _ _ | exact wK _ _ _ | refine wM (by decide) ?_ | refine wJ rfl ?_ | refine wN rfl ?_)
      ·skip
       have q1' : ¬ l[k].kind = 1 := by simpa using q1
       refine qC rfl ?_
       refine qA (qJ (v := .bool _) rfl) ?_
       refine qA (qF (v := .bool _) rfl) ?_
       refine ⟨(), ⟨(by show Value.bool _ = _; congr 1; by_cases q2 : l[k].kind = 2 <;> simp [q1', q2]), trivial⟩, rfl, rfl, (Ext.refl _), fun h3 E3 => by first | trivial | omega | (refine ⟨?_, ?_⟩ <;> omega), ?_⟩
       repeat (first | exact zG _ _ | exact wK _ _ _ | refine wM (by decide) ?_ | refine wJ rfl ?_ | refine wN rfl ?_)
     ·rintro u T3 h_u E_u J_u
      refine wE [_, _, _, _, _, _] rfl ?_
      refine wA rfl (fun hb => ?_) (fun hb => ?_)
      ·skip
       have hb' : l[k].kind = 1 ∨ l[k].kind = 2 := of_decide_eq_true hb
       have hstep : stepE m hd l[k] = putE hd.buttons l[k].which m.buttons.length (l[k].kind == 1) := by unfold stepE; rw [if_pos hb']
       have hsh : stepH hd l[k] = ⟨putL hd.buttons l[k].which (l[k].kind == 1), hd.on⟩ := by unfold stepH; rw [if_pos hb']
       refine qC rfl ?_
       refine qA (qI rfl rfl rfl rfl 0 rfl) ?_
       refine qN 4 (v := .slice _ _ _) rfl rfl rfl rfl ?_
       refine qA (qI rfl rfl rfl rfl 1 rfl) ?_
       refine qN 5 (v := .int .i64 _) rfl rfl rfl rfl ?_
       refine qA (qI rfl rfl rfl rfl 5 rfl) ?_
       refine qN 0 (v := .slice _ _ _) rfl rfl rfl rfl ?_
       refine qA (wP rfl rfl) ?_
       refine qA (qI rfl rfl rfl rfl 0 rfl) ?_
       refine qN 5 (v := .int .i64 _) rfl rfl rfl rfl ?_
       refine qA (qJ (v := .bool _) rfl) ?_
       refine op_fnE (caps := []) (vs := [.slice _ _ _, .int .i64 _, .int .i64 _, .bool _]) rfl rfl rfl (put_ok hd.buttons l[k].which m.buttons.length (l[k].kind == 1) HA cH h_u (K5.ext E_u).b (by omega) K4.b.asc (by omega)) (fun v h9 E9 q => ?_) ?_
       ·obtain ⟨hne, rfl⟩ := q
        exact Exists.intro _ ⟨rfl, playClo_pan _ _ _ _ _ _ _ _ _ _ _ (fun b3 o3 => doneK_list (vs := [_, _]) Tryd.results15 ⟨resV_one 1 rfl rfl rfl rfl (v := .slice _ _ _) rfl, resV_one 2 rfl rfl rfl rfl (v := .int .i64 _) rfl, trivial⟩ (fun V => ⟨zL (zL (zL (zL (zL E1 E2) E_k) E_u) E9) (qZ V), _, by rw [playM, if_neg hc', if_neg hm', goM_bad m hkl K2 (by rw [K3, hstep]; exact hne)]; show _ = Value.tuple #[_, .int .i64 (stepE m (goM m (l.take k)).a l[k])]; rw [K3, hstep]; rfl, by rw [playM, if_neg hc', if_neg hm', goM_bad m hkl K2 (by rw [K3, hstep]; exact hne)]; exact SlX.nil _ _ _ _ _⟩))⟩
       rintro _ h9 E9 ⟨he, A9, c9, rfl, R9⟩
       refine qA (qI rfl rfl rfl rfl 0 rfl) ?_
       refine wG 4 (v := .slice _ _ _) (vs := [_]) (c' := [_, _]) rfl rfl rfl rfl rfl rfl rfl rfl rfl ?_
       refine qH [_, _, _, _, _, _] rfl ?_
       refine ⟨(A9, c9, OA, cO), trivial, rfl, by rw [hsh]; rfl, (zL E_u E9), fun h3 E3 => ⟨by rw [hstep, he], by rw [hsh]; exact ⟨R9.ext E3, K5.o.ext (zL (zL E_u E9) E3)⟩⟩, ?_⟩
       repeat (first | exact zG _ _ | exact wK _ _ _ | refine wM (by decide) ?_ | refine wJ rfl ?_ | refine wN rfl ?_)
      ·skip
       have hb' : ¬ (l[k].kind = 1 ∨ l[k].kind = 2) := of_decide_eq_false hb
       refine xp_cutB [47, 48, 49] 6 (α := Unit) (fun u2 => [(47, .bool (decide (l[k].kind = 3 ∨ l[k].kind = 4)))]) (fun u2 L => L) (fun u2 h_u2 => True) ?_ ?_
       ·skip
        refine qE ?_
        refine qC rfl ?_
        refine qA (qJ (v := .bool _) rfl) ?_
        refine qA (qF (v := .bool _) rfl) ?_
        refine wA rfl (fun q1 => ?_) (fun q1 => ?_)
        ·skip
         have q1' : l[k].kind = 3 := by simpa using q1
         refine qP ?_
         refine ⟨(), ⟨(by show Value.bool _ = _; rw [q1, decide_eq_true (.inl q1')]), trivial⟩, rfl, rfl, (Ext.refl _), fun h3 E3 => by first | trivial | omega | (refine ⟨?_, ?_⟩ <;> omega), ?_⟩
         repeat (first | exact zG _ _ | exact wK _ _ _ | refine wM (by decide) ?_ | refine wJ rfl ?_ | refine wN rfl ?_)
        ·skip
         have q1' : ¬ l[k].kind = 3 := by simpa using q1
         refine qC rfl ?_
         refine qA (qJ (v := .bool _) rfl) ?_
         refine qA (qF (v := .bool _) rfl) ?_
         refine ⟨(), ⟨(by show Value.bool _ = _; congr 1; by_cases q2 : l[k].kind = 4 <;> simp [q1', q2]), trivial⟩, rfl, rfl, (Ext.refl _), fun h3 E3 => by first | trivial | omega | (refine ⟨?_, ?_⟩ <;> omega), ?_⟩
         repeat (first | exact zG _ _ | exact wK _ _ _ | refine wM (by decide) ?_ | refine wJ rfl ?_ | refine wN rfl ?_)
       ·rintro u2 T4 h_u2 E_u2 J_u2
        refine wE [_, _, _, _, _, _] rfl ?_
        refine wA rfl (fun hb2 => ?_) (fun hb2 => ?_)
        ·skip
         have hb2' : l[k].kind = 3 ∨ l[k].kind = 4 := of_decide_eq_true hb2
         have hstep : stepE m hd l[k] = putE hd.on l[k].which m.regs (l[k].kind == 3) := by unfold stepE; rw [if_neg hb', if_pos hb2']
         have hsh : stepH hd l[k] = ⟨hd.buttons, putL hd.on l[k].which (l[k].kind == 3)⟩ := by unfold stepH; rw [if_neg hb']
         refine qC rfl ?_
         refine qA (qI rfl rfl rfl rfl 1 rfl) ?_
         refine qN 4 (v := .slice _ _ _) rfl rfl rfl rfl ?_
         refine qA (qI rfl rfl rfl rfl 1 rfl) ?_
         refine qN 5 (v := .int .i64 _) rfl rfl rfl rfl ?_
         refine qA (qI rfl rfl rfl rfl 2 rfl) ?_
         refine qN 0 (v := .int .i64 _) rfl rfl rfl rfl ?_
         refine qA (qI rfl rfl rfl rfl 0 rfl) ?_
         refine qN 5 (v := .int .i64 _) rfl rfl rfl rfl ?_
         refine qA (qJ (v := .bool _) rfl) ?_
         refine op_fnE (caps := []) (vs := [.slice _ _ _, .int .i64 _, .int .i64 _, .bool _]) rfl rfl rfl (put_ok hd.on l[k].which m.regs (l[k].kind == 3) OA cO h_u2 (K5.ext (zL E_u E_u2)).o (by omega) K4.o.asc (by omega)) (fun v h9 E9 q => ?_) ?_
         ·obtain ⟨hne, rfl⟩ := q
          exact Exists.intro _ ⟨rfl, playClo_pan _ _ _ _ _ _ _ _ _ _ _ (fun b3 o3 => doneK_list (vs := [_, _]) Tryd.results15 ⟨resV_one 1 rfl rfl rfl rfl (v := .slice _ _ _) rfl, resV_one 2 rfl rfl rfl rfl (v := .int .i64 _) rfl, trivial⟩ (fun V => ⟨zL (zL (zL (zL (zL (zL E1 E2) E_k) E_u) E_u2) E9) (qZ V), _, by rw [playM, if_neg hc', if_neg hm', goM_bad m hkl K2 (by rw [K3, hstep]; exact hne)]; show _ = Value.tuple #[_, .int .i64 (stepE m (goM m (l.take k)).a l[k])]; rw [K3, hstep]; rfl, by rw [playM, if_neg hc', if_neg hm', goM_bad m hkl K2 (by rw [K3, hstep]; exact hne)]; exact SlX.nil _ _ _ _ _⟩))⟩
         rintro _ h9 E9 ⟨he, A9, c9, rfl, R9⟩
         refine qA (qI rfl rfl rfl rfl 1 rfl) ?_
         refine wG 4 (v := .slice _ _ _) (vs := [_]) (c' := [_, _]) rfl rfl rfl rfl rfl rfl rfl rfl rfl ?_
         refine qH [_, _, _, _, _, _] rfl ?_
         refine ⟨(HA, cH, A9, c9), trivial, rfl, by rw [hsh]; rfl, (zL (zL E_u E_u2) E9), fun h3 E3 => ⟨by rw [hstep, he], by rw [hsh]; exact ⟨K5.b.ext (zL (zL (zL E_u E_u2) E9) E3), R9.ext E3⟩⟩, ?_⟩
         repeat (first | exact zG _ _ | exact wK _ _ _ | refine wM (by decide) ?_ | refine wJ rfl ?_ | refine wN rfl ?_)
        ·skip
         have hb2' : ¬ (l[k].kind = 3 ∨ l[k].kind = 4) := of_decide_eq_false hb2
         have hstep : stepE m hd l[k] = 8 := by unfold stepE; rw [if_neg hb', if_neg hb2']
         have hne : (8 : Int) ≠ 0 := by decide
         refine qC rfl ?_
         refine qA (wX (zc := [_]) (vs := [(0, .int .i64 _)]) (cs := [_]) rfl rfl rfl rfl rfl rfl) ?_
         refine qA (qJ (v := _) rfl) ?_
         refine op_panic rfl ?_
         exact Exists.intro _ ⟨rfl, playClo_pan _ _ _ _ _ _ _ _ _ _ _ (fun b3 o3 => doneK_list (vs := [_, _]) Tryd.results15 ⟨resV_one 1 rfl rfl rfl rfl (v := .slice _ _ _) rfl, resV_one 2 rfl rfl rfl rfl (v := .int .i64 _) rfl, trivial⟩ (fun V => ⟨(zL (zL (zL (zL (zL E1 E2) E_k) E_u) E_u2) (qZ V)), _, by rw [playM, if_neg hc', if_neg hm', goM_bad m hkl K2 (by rw [K3, hstep]; exact hne)]; show _ = Value.tuple #[_, .int .i64 (stepE m (goM m (l.take k)).a l[k])]; rw [K3, hstep]; rfl, by rw [playM, if_neg hc', if_neg hm', goM_bad m hkl K2 (by rw [K3, hstep]; exact hne)]; exact SlX.nil _ _ _ _ _⟩))⟩
    ·rintro ⟨H9, c9, O9, d9⟩ T2 h_H9 E_H9 J_H9
     refine wE [_, _, _, _, _, _] rfl ?_
     obtain ⟨S0, RH9⟩ := J_H9
     have H9' := stepH_ok K4 S0
     have hgo := goM_good m hkl K2 (by rw [K3]; exact S0)
     rw [K3] at hgo
     have hgl : (gs.flatMap id).length = gs.length := by rw [zE (enc := id) (m := 1) K8, Nat.mul_one]
     have hgk : gs.length ≤ k := by rw [K7.1]; have := goM_len m (l.take k); rw [List.length_take] at this; omega
     refine xp_dw [false, false, false, true, false, false] rfl rfl rfl ?_
     refine wQ (i := 0) rfl (by decide +kernel) ?_
     refine qN 1 (v := .slice _ _ _) rfl rfl rfl rfl ?_
     refine qO (i := 1) rfl (by decide +kernel) (qD (v := _) rfl) ?_
     refine wQ (i := 2) rfl (by decide +kernel) ?_
     refine wH 4 (vs := [.slice _ _ _, .slice _ _ _]) rfl rfl rfl rfl rfl ?_
     refine qO (i := 3) rfl (by decide +kernel) (qI rfl rfl rfl rfl 3 rfl) ?_
     refine wQ (i := 4) rfl (by decide +kernel) ?_
     refine qN 0 (v := .int .i64 _) rfl rfl rfl rfl ?_
     refine dw_eff (i := 5) rfl (by decide +kernel) ?_
     refine qV  (vs := _) rfl rfl rfl (snd_ok hph m (stepH hd l[k]) (fit_of M H9') (pfit_of M) m.travel (by omega) tr.2 bs AB1 AQ1 AL1 AW1 H9 O9 cB1 cQ1 cL1 cW1 c9 d9 h_H9 (CM.ext (zL E_k E_H9)) (RM1.ext (zL E_k E_H9)) (RH9.ext (Ext.refl _))) ?_
     rintro _ h5 E5 rfl
     refine ⟨ext_wlm E5 _, ?_⟩
     refine dw_eff (i := 6) rfl (by decide +kernel) ?_
     refine qV (caps := []) (vs := [.int .i64 _]) rfl rfl rfl (list_ok (soundsM m (stepH hd l[k]) m.travel) (sounds_small (pfit_of M) _ _) h5) ?_
     rintro _ h6 E6 ⟨Al, cl, rfl, Rl⟩
     refine ⟨ext_wlm E6 _, ?_⟩
     refine dw_eff (i := 7) rfl (by decide +kernel) ?_
     refine qK (zc := [_]) (vs := [(0, .slice _ _ _)]) (cs := [_]) rfl rfl rfl rfl rfl rfl rfl fun b68 hb68 => ?_
     refine ⟨ext_newM hb68 _, ?_⟩
     refine zI [_, _, _, _, _, _, _] rfl ?_
     refine dw_last (i := 8) rfl (by decide +kernel) (by decide +kernel) ?_
     refine zF 3 K6 rfl rfl rfl (fun V => rdP V (i := 6) rfl) rfl rfl rfl rfl rfl rfl rfl rfl rfl (by omega) rfl (by rw [hgl]; simp only [List.length_cons, List.length_nil]; omega) fun a2 h5a E5a ha2 => ?_
     refine zI [_, _, _, _, _, _, _] rfl ?_
     refine dw_last (i := 9) rfl (by decide +kernel) (by decide +kernel) ?_
     refine wG 1 (v := .slice _ _ _) (vs := [_]) (c' := [_]) rfl rfl rfl rfl rfl rfl rfl rfl rfl ?_
     refine zI [_, _, _, _, _, _, _] rfl ?_
     refine dw_end rfl ?_
     refine qC rfl ?_
     refine qA (qX rfl (by omega)) ?_
     refine qA (qD (v := .int .i64 _) rfl) ?_
     refine ⟨(k + 1, a2, gs ++ [[.slice Al (listN (soundsM m (stepH hd l[k]) m.travel) 6).length cl]], stepH hd l[k], H9, c9, O9, d9), ⟨rfl, trivial⟩, rfl, rfl, (zL (zL (zL (zL E_k E_H9) E5) E6) E5a), fun h3 E3 => ⟨hkl, by rw [hgo], by rw [hgo], H9', RH9.ext (zL (zL (zL E5 E6) E5a) E3), by rw [List.flatMap_append]; exact ha2, by rw [hgo]; exact (Els.snoc (K7.ext TL.mono (zL (zL (zL E_H9 E5) E6) E5a)) ⟨_, rfl, Al, cl, rfl, Rl.ext E5a⟩).ext TL.mono E3, one_len K8 rfl⟩, by first | omega | (dsimp only; omega), ?_⟩
     repeat (first | exact wK _ _ _ | refine wM (by decide) ?_ | refine wJ rfl ?_ | refine wN rfl ?_)
   ·skip
    have hke : k = l.length := by have := geI hk; omega
    subst hke
    rw [List.take_length] at K2 K3 K7
    refine zA ?_
    refine qE ?_
    refine qC rfl ?_
    refine qN 1 (v := .slice _ _ _) rfl rfl rfl rfl ?_
    refine wG 1 (v := .slice _ _ _) (vs := [_]) (c' := [_]) rfl rfl rfl rfl rfl rfl rfl rfl rfl ?_
    refine qH [_, _, _, _, _] rfl ?_
    refine wG 2 (v := .int .i64 _) (vs := [_]) (c' := [_]) rfl rfl rfl rfl rfl rfl rfl rfl rfl ?_
    refine qH [_, _, _, _, _] rfl ?_
    refine wD ?_
    refine .inr (Exists.intro _ ⟨rfl, playClo_nil _ _ _ _ _ (doneK_list (vs := [_, _]) Tryd.results15 ⟨resV_one 1 rfl rfl rfl rfl (v := .slice _ _ _) rfl, resV_one 2 rfl rfl rfl rfl (v := .int .i64 _) rfl, trivial⟩ (fun V => ?_))⟩)
    obtain ⟨A9, c9, e9, R9⟩ := AccP.row (m := 1) (enc := id) (i := 3) (l := gs) K6 (by omega) K8 V rfl
    refine ⟨(zL (zL (zL E1 E2) E_k) (qZ V)), _, by rw [playM, if_neg hc', if_neg hm', K2]; rfl, ?_⟩
    rw [playM, if_neg hc', if_neg hm']
    have X := SlX.of (T := TL) (l := (goM m l).out) (cap := c9) R9 (K7.ext TL.mono (qZ V)) K7.1.symm
    rw [← e9] at X
    exact X
end
end Go.Proofs.YtmpahfdiebhdbaaDoor
namespace Go.Rd
open Go Go.HL Go.Wx
variable [Lvl]
structure Mut (m m' : MachP) : Prop where
 lv : m'.levers = m.levers
 op : m'.opn = m.opn
 tv : m'.travel = m.travel
 bt : m'.buttons = m.buttons
 p1 : ∀ p ∈ m'.pins, p ∈ m.pins
 p2 : ∀ p ∈ m.pins, p.lag = m.travel ∨ p ∈ m'.pins
 l1 : ∀ l ∈ m'.links, l ∈ m.links
 l2 : ∀ l ∈ m.links, l.lag = m.travel ∨ l ∈ m'.links
end Go.Rd
namespace Go.Proofs.YtmpahfdiebhdbaaDoor
open Go Go.HL Go.Proofs Go.Wx Go.Rd
section
variable [Lvl]
set_option maxRecDepth 100000
end
end Go.Proofs.YtmpahfdiebhdbaaDoor
namespace Go.Proofs.YtmpahfdiebhdbaaDoor
open Go Go.HL Go.Proofs Go.Wx Go.Rd
section
variable [Lvl]
set_option maxRecDepth 100000
end
end Go.Proofs.YtmpahfdiebhdbaaDoor
namespace Go.Proofs.YtmpahfdiebhdbaaDoor
open Go Go.HL Go.Proofs Go.Wx Go.Rd
section
variable [Lvl]
set_option maxRecDepth 100000
end
end Go.Proofs.YtmpahfdiebhdbaaDoor
namespace Go.Proofs.YtmpahfdiebhdbaaDoor
open Go Go.HL Go.Proofs Go.Wx Go.Rd
section
variable [Lvl]
set_option maxRecDepth 100000
end
end Go.Proofs.YtmpahfdiebhdbaaDoor
namespace Go.Proofs.YtmpahfdiebhdbaaDoor
open Go Go.HL Go.Proofs Go.Wx Go.Rd
section
variable [Lvl]
set_option maxRecDepth 100000
end
end Go.Proofs.YtmpahfdiebhdbaaDoor
namespace Go.Proofs.YtmpahfdiebhdbaaDoor
open Go Go.HL Go.Proofs Go.Wx Go.Rd
section
variable [Lvl]
set_option maxRecDepth 100000
def alikeB (m : MachP) (i : Nat) (a : HandP) : Bool := decide (soundsB m [.pin i] a = soundsB m [] a)
def uselessB (m : MachP) (i : Nat) : Bool := (handsM m).all (alikeB m i)
def uselessN (m : MachP) (k : Nat) : List Int := ((List.range k).filter (uselessB m)).map fun i : Nat => (i : Int)
theorem uselessN_succ (m : MachP) (k : Nat) : uselessN m (k + 1) = uselessN m k ++ if uselessB m k then [(k : Int)] else [] := by
 unfold uselessN
 rw [List.range_succ, List.filter_append, List.map_append]
 congr 1
 by_cases h : uselessB m k = true
 ·simp [h]
 ·simp [h]
theorem uselessN_len (m : MachP) : ∀ k, (uselessN m k).length ≤ k
 | 0 => Nat.le_refl _
 | k + 1 => by
  have := uselessN_len m k
  rw [uselessN_succ, List.length_append]
  split <;> simp <;> omega
def uselessL (m : MachP) : List Int := if chkM m = 0 then uselessN m m.pins.length else []
def UseI (m : MachP) (q : Nat) (p1 p5 p8 : Nat × Obj) (pa : Option (Nat × Obj)) (l : Nat) (r : Loop) (h0 : AH) (k : Nat) (h : AH) (M : Pv) : Prop :=
 Ext h0 h ∧ (∀ i x, i < k → (handsM m)[i]? = some x → alikeB m q x = true) ∧ M = [some p1, some p5, pa, none, some p8, some (l, obL r .ready none)]
def UseF (m : MachP) (q : Nat) (p1 p5 p8 : Nat × Obj) (pa : Option (Nat × Obj)) (l : Nat) (r : Loop) (h0 : AH) (h : AH) (M : Pv) : Prop :=
 Ext h0 h ∧ uselessB m q = false ∧ M = [some p1, some p5, pa, none, some p8, some (l, obL r .done (some (.exit 1)))]
theorem UseI.ext {m : MachP} {q : Nat} {p1 p5 p8 : Nat × Obj} {pa : Option (Nat × Obj)} {l : Nat} {r : Loop} {h0 h h' : AH} {k : Nat} {M : Pv} (I : UseI m q p1 p5 p8 pa l r h0 k h M) (E : Ext h h') : UseI m q p1 p5 p8 pa l r h0 k h' M := ⟨I.1.trans E, I.2⟩
theorem UseF.ext {m : MachP} {q : Nat} {p1 p5 p8 : Nat × Obj} {pa : Option (Nat × Obj)} {l : Nat} {r : Loop} {h0 h h' : AH} {M : Pv} (I : UseF m q p1 p5 p8 pa l r h0 h M) (E : Ext h h') : UseF m q p1 p5 p8 pa l r h0 h' M := ⟨I.1.trans E, I.2⟩
theorem useless_no {m : MachP} {q k : Nat} {x : HandP} (h : (handsM m)[k]? = some x) (hx : alikeB m q x = false) : uselessB m q = false := by
 unfold uselessB
 rw [List.all_eq_false]
 exact ⟨x, List.mem_of_getElem? h, by rw [hx]; decide⟩
theorem useless_yes {m : MachP} {q : Nat} (h : ∀ i x, i < (handsM m).length → (handsM m)[i]? = some x → alikeB m q x = true) : uselessB m q = true := by
 unfold uselessB
 rw [List.all_eq_true]
 intro x hx
 obtain ⟨i, hi, rfl⟩ := List.getElem_of_mem hx
 exact h i _ hi (List.getElem?_eq_getElem hi)
set_option maxHeartbeats 4000000 in
theorem Useless_ok (hph : Lvl.ph = true) (m : MachP) (AB AQ AL AW : Option Addr) (cB cQ cL cW : Nat) (h : AH) (RM : MachR h AB AQ AL AW m) (h0 : m.weights.length < 2 ^ 40) :
  FnT Tryd.prog 37 #[machV AB AQ AL AW cB cQ cL cW m] h (fun v h' => ∃ L, v = .tuple #[L, .int .i64 (chkM m)] ∧ SlR h' 1 intC (uselessL m) L) := by
 refine wL Tryd.func37 rfl Tryd.ntmps37 rfl ?_
 refine qE ?_
 refine qC rfl ?_
 refine op_box (v := .agg #[.int .i64 _, .int .i64 _, .int .i64 _, .int .i64 _, .int .i64 _, .slice _ _ _, .slice _ _ _, .slice _ _ _, .slice _ _ _]) (cs := [_, _, _, _, _, _, _, _, _]) rfl rfl fun b1 hb1 => ?_
 refine qH [_] rfl ?_
 refine qA (qF (v := .slice _ _ _) rfl) ?_
 refine qA (qF (v := .int .i64 _) rfl) ?_
 refine xp_scope ?_
 refine qE ?_
 refine qE ?_
 refine qC rfl ?_
 refine wH 0 (vs := [.int .i64 _, .int .i64 _, .int .i64 _, .int .i64 _, .int .i64 _, .slice _ _ _, .slice _ _ _, .slice _ _ _, .slice _ _ _]) rfl rfl rfl rfl rfl ?_
 refine qV (caps := []) (vs := [.agg #[.int .i64 _, .int .i64 _, .int .i64 _, .int .i64 _, .int .i64 _, .slice _ _ _, .slice _ _ _, .slice _ _ _, .slice _ _ _]]) rfl rfl rfl (Check_ok m AB AQ AL AW cB cQ cL cW h (RM.ext (Ext.refl _)) h0) ?_
 rintro _ h3 E13 rfl
 refine qA (qF (v := .int .i64 _) rfl) ?_
 refine qE ?_
 refine qC rfl ?_
 refine qA (qD (v := .int .i64 _) rfl) ?_
 refine qA (qJ (v := .bool _) rfl) ?_
 refine wA rfl (fun hc => ?_) (fun hc => ?_)
 ·skip
  have hc' : chkM m ≠ 0 := by simpa using hc
  refine qE ?_
  refine qC rfl ?_
  refine qA (qD (v := .int .i64 _) rfl) ?_
  refine qA (qF (v := .slice _ _ _) rfl) ?_
  refine qA (qF (v := .int .i64 _) rfl) ?_
  refine wD ?_
  refine qS (vs := [_, _]) Tryd.results37 ⟨qM rfl rfl, qM rfl rfl, trivial⟩ fun V => ?_
  exact ⟨(zL E13 (qZ V)), _, rfl, none, 0, by rw [uselessL, if_neg hc']; rfl, by rw [uselessL, if_neg hc']; exact row_nil _ _⟩
 ·skip
  have hc' : chkM m = 0 := by simpa using hc
  have M := check_ok hc'
  have mpl := M.pl
  have mbl := M.bl
  have mrg := M.regs
  rw [hc', uselessL, if_pos hc']
  refine qP ?_
  refine qE ?_
  refine qC rfl ?_
  refine wH 0 (vs := [.int .i64 _, .int .i64 _, .int .i64 _, .int .i64 _, .int .i64 _, .slice _ _ _, .slice _ _ _, .slice _ _ _, .slice _ _ _]) rfl rfl rfl rfl rfl ?_
  refine qV (caps := []) (vs := [.agg #[.int .i64 _, .int .i64 _, .int .i64 _, .int .i64 _, .int .i64 _, .slice _ _ _, .slice _ _ _, .slice _ _ _, .slice _ _ _], .slice _ _ _]) rfl rfl rfl (broken_ok m M [] (fun f hf => absurd hf List.not_mem_nil) (by decide) AB AQ AL AW none cB cQ cL cW 0 h3 (RM.ext E13) (row_fnil _ _)) ?_
  rintro _ h6 E6 ⟨z1, z2, z3, z4, rfl, BB⟩
  refine wW (cs := [_]) rfl rfl fun b5 hb5 => ?_
  refine qH [_, _] rfl ?_
  refine wG 1 (v := _) (vs := [_]) (c' := [_]) rfl rfl rfl rfl rfl rfl rfl rfl rfl ?_
  refine qH [_, _] rfl ?_
  refine goes_more ?_
  refine wE [_, _, _] rfl ?_
  refine qE ?_
  refine qC rfl ?_
  refine qA (qF (v := .slice _ _ _) rfl) ?_
  refine qE ?_
  refine xp_label ?_
  refine qE ?_
  refine qE ?_
  refine qC rfl ?_
  refine qA (qI rfl rfl rfl rfl 6 rfl) ?_
  refine qN 0 (v := .slice _ _ _) rfl rfl rfl rfl ?_
  refine qA (wP rfl rfl) ?_
  refine qA (qD (v := .int .i64 _) rfl) ?_
  refine qT ?_
  refine xp_loopD [6, 7, 8, 9, 20, 21, 22, 23, 24, 25, 26, 27, 28, 29, 30, 31, 32, 33, 34, 35, 36, 37, 38, 39, 40, 41, 42] 3 (α := Nat × Acc) (fun ⟨k, a⟩ => [(20, .int .i64 k), (6, .slice a.A a.n a.c)]) (fun ⟨k, a⟩ L => L.set 2 (a.p)) (fun ⟨k, a⟩ h_k => k ≤ m.pins.length ∧ AccR 3 1 ((uselessN m k).flatMap intC) a) (fun ⟨k, a⟩ => m.pins.length - k) ((0, acc0)) ⟨rfl, rfl, trivial⟩ (rfl) (⟨Nat.zero_le _, accR0⟩) (rfl) ?_
  rintro ⟨k, a⟩ T1 h_k E_k J_k D_k hD_k
  refine wE [_, _, _] rfl ?_
  obtain ⟨K1, K2⟩ := J_k
  refine qE ?_
  refine qC rfl ?_
  refine qA (qJ (v := .bool _) rfl) ?_
  refine qE ?_
  refine wA rfl (fun hk => ?_) (fun hk => ?_)
  ·skip
   have hkl : k < m.pins.length := ltI hk
   have hfk : ∀ f ∈ [FaultP.pin k], FOK m f := fun f hf => by simp at hf; subst hf; exact hkl
   refine qP ?_
   refine qE ?_
   refine qT ?_
   refine qE ?_
   refine qC rfl ?_
   refine qA (qD (v := .int .i64 _) rfl) ?_
   refine qA (qF (v := .int .i64 _) rfl) ?_
   refine qE ?_
   refine qC rfl ?_
   refine wH 0 (vs := [.int .i64 _, .int .i64 _, .int .i64 _, .int .i64 _, .int .i64 _, .slice _ _ _, .slice _ _ _, .slice _ _ _, .slice _ _ _]) rfl rfl rfl rfl rfl ?_
   refine qA (qD (v := .int .i64 _) rfl) ?_
   refine qA (qJ (v := _) rfl) ?_
   refine qK (zc := [_]) (vs := [(0, _)]) (cs := [_]) rfl rfl rfl rfl rfl rfl rfl fun b26 hb26 => ?_
   refine qH [_, _, _, _] rfl ?_
   refine wp_pub 3 rfl rfl ?_
   intro g1 G1 p1
   refine qH [_, _, _, _] rfl ?_
   have R1 : Row g1 1 faultC (some ⟨b26, 0, none⟩) [FaultP.pin k] := ⟨fun _ _ => rfl, fun _ => ⟨b26, 0, rfl, cellsB (cs := [faultV (.pin k)]) p1⟩⟩
   refine qV (caps := []) (vs := [.agg _, .slice _ _ _]) rfl rfl rfl (broken_ok m M [.pin k] hfk (by show 1 < 2 ^ 20; decide) AB AQ AL AW _ cB cQ cL cW 1 g1 (RM.ext (zL (zL (zL E13 E6) E_k) G1)) R1) ?_
   rintro _ h7 E7 ⟨y1, y2, y3, y4, rfl, BY⟩
   refine wW (cs := [_]) rfl rfl fun b8 hb8 => ?_
   refine qH [_, _, _, _, _] rfl ?_
   refine wG 4 (v := _) (vs := [_]) (c' := [_]) rfl rfl rfl rfl rfl rfl rfl rfl rfl ?_
   refine qH [_, _, _, _, _] rfl ?_
   refine qE ?_
   refine qE ?_
   refine qC rfl ?_
   refine wH 0 (vs := [.int .i64 _, .int .i64 _, .int .i64 _, .int .i64 _, .int .i64 _, .slice _ _ _, .slice _ _ _, .slice _ _ _, .slice _ _ _]) rfl rfl rfl rfl rfl ?_
   refine qV (caps := []) (vs := [.agg #[.int .i64 _, .int .i64 _, .int .i64 _, .int .i64 _, .int .i64 _, .slice _ _ _, .slice _ _ _, .slice _ _ _, .slice _ _ _]]) rfl rfl rfl (hands_ok m (by omega) (by omega) AB AQ AL AW cB cQ cL cW h7) ?_
   rintro yv h8 E8 It
   refine qT ?_
   have E08 := (zL (zL (zL (zL (zL E13 E6) E_k) G1) E7) E8)
   have E68 := (zL (zL (zL E_k G1) E7) E8)
   have E78 := E8
   have EK8 := (zL (zL G1 E7) E8)
   refine xp_rangeFunc rfl ?_
   intro r l lp htm hpr has hbd V0
   refine CallV.mono (It (.yield l) #[] #[] (UseI m k (b1, .cells #[.int .i64 m.rods, .int .i64 m.levers, .int .i64 m.regs, .int .i64 m.travel, .int .i64 m.opn, .slice AB m.buttons.length cB, .slice AQ m.pins.length cQ, .slice AL m.links.length cL, .slice AW m.weights.length cW] 26 (0, 0)) (b5, .cells #[brkY z1 z2 z3 z4] 96 (0, 0)) (b8, .cells #[brkY y1 y2 y3 y4] 96 (0, 0)) a.p l lp h8) (UseF m k (b1, .cells #[.int .i64 m.rods, .int .i64 m.levers, .int .i64 m.regs, .int .i64 m.travel, .int .i64 m.opn, .slice AB m.buttons.length cB, .slice AQ m.pins.length cQ, .slice AL m.links.length cL, .slice AW m.weights.length cW] 26 (0, 0)) (b5, .cells #[brkY z1 z2 z3 z4] 96 (0, 0)) (b8, .cells #[brkY y1 y2 y3 y4] 96 (0, 0)) a.p l lp h8) (fun k h1 h2 M E I => I.ext E) (fun h1 h2 M E I => I.ext E) ?_ h8 _ (Ext.refl _) ⟨Ext.refl _, fun i s hi => absurd hi (Nat.not_lt_zero _), rfl⟩ V0) ?_ (fun _ _ y => y)
   ·rintro i x v hcl M' hi hT ⟨E9, I1, rfl⟩
    obtain ⟨HB, OB, cHB, cOB, rfl, RX⟩ := HandV.open hT
    have HX : HOK m x := hands_hok ⟨mrg.1, mrg.2⟩ hi
    intro V
    refine callV_yield (zC V (i := 5) rfl) hpr rfl htm has hbd ?_
    refine round_enter (i := 5) (r := lp) ?_ V
    refine wE [_, _, _, _, _, _] rfl ?_
    refine qC rfl ?_
    refine wW (cs := [_, _]) rfl rfl fun b9 hb9 => ?_
    refine qH [_, _, _, _, _, _, _] rfl ?_
    refine wG 6 (v := .agg #[.slice _ _ _, .slice _ _ _]) (vs := [_, _]) (c' := [_, _]) rfl rfl rfl rfl rfl rfl rfl rfl rfl ?_
    refine qH [_, _, _, _, _, _, _] rfl ?_
    refine ⟨rfl, none, rfl, ?_⟩
    refine wE [_, _, _, _, _, _, _] rfl ?_
    refine qT ?_
    refine qE ?_
    refine xp_dw [] rfl rfl rfl ?_
    refine wQ (i := 0) rfl (by decide +kernel) ?_
    refine qN 4 (v := _) rfl rfl rfl rfl ?_
    refine wQ (i := 1) rfl (by decide +kernel) ?_
    refine wH 6 (vs := [.slice _ _ _, .slice _ _ _]) rfl rfl rfl rfl rfl ?_
    refine wQ (i := 3) rfl (by decide +kernel) ?_
    refine qN 1 (v := _) rfl rfl rfl rfl ?_
    refine wQ (i := 4) rfl (by decide +kernel) ?_
    refine wH 6 (vs := [.slice _ _ _, .slice _ _ _]) rfl rfl rfl rfl rfl ?_
    refine dw_eff (i := 2) rfl (by decide +kernel) ?_
    refine qV  (vs := _) rfl rfl rfl (brk_ok hph m M [.pin k] hfk x HX y1 y2 y3 y4 HB OB cHB cOB hcl (BY.ext (zL E78 (zL E9 (Ext.refl _)))) (RX.ext (Ext.refl _))) ?_
    rintro _ h10 E10 rfl
    refine ⟨ext_wlm E10 _, ?_⟩
    refine dw_last (i := 5) rfl (by decide +kernel) (by decide +kernel) ?_
    refine qV  (vs := _) rfl rfl rfl (brk_ok hph m M [] (fun f hf => absurd hf List.not_mem_nil) x HX z1 z2 z3 z4 HB OB cHB cOB h10 (BB.ext (zL E68 (zL E9 E10))) (RX.ext E10)) ?_
    rintro _ h11 E11 rfl
    refine qO (i := 6) rfl (by decide +kernel) (qJ (v := .bool _) rfl) ?_
    refine dw_end rfl ?_
    refine wA rfl (fun he => ?_) (fun he => ?_)
    ·skip
     have hp : alikeB m k x = false := by
      have : ¬ soundsB m [.pin k] x = soundsB m [] x := by
       have : ((soundsB m [.pin k] x : Nat) : Int) ≠ ((soundsB m [] x : Nat) : Int) := by simpa using he
       omega
      exact decide_eq_false this
     refine zA ?_
     intro V2
     have V3 := valid_set (o' := obL lp .done (some (.exit 1))) V2 (i := 5) rfl
     obtain ⟨h99, E99, e9, V9⟩ := wl_drop [_] [_, _, _, _, _, _] V3
     exact ⟨rfl, ⟨_, _, rfl⟩, h99, _, e9, V9, zL (zL E10 E11) E99, .inr ⟨rfl, zL E9 (zL (zL E10 E11) E99), useless_no hi hp, rfl⟩⟩
    ·skip
     have hp : alikeB m k x = true := by
      have : ((soundsB m [.pin k] x : Nat) : Int) = ((soundsB m [] x : Nat) : Int) := by simpa using he
      exact decide_eq_true (by omega)
     refine qP ?_
     intro V2
     have V3 := valid_set (o' := obL lp .ready none) V2 (i := 5) rfl
     obtain ⟨h99, E99, e9, V9⟩ := wl_drop [_] [_, _, _, _, _, _] V3
     exact ⟨rfl, ⟨_, _, rfl⟩, h99, _, e9, V9, zL (zL E10 E11) E99, .inl ⟨rfl, zL E9 (zL (zL E10 E11) E99), fun j s hj hs => (Nat.lt_succ_iff_lt_or_eq.1 hj).elim (fun h => I1 j s h hs) (fun h => by subst h; rw [hi] at hs; cases hs; exact hp), rfl⟩⟩
   ·rintro v H ⟨h', M', rfl, V', E', ⟨E9, I1, rfl⟩ | ⟨E9, I1, rfl⟩⟩
    rotate_left
    ·refine ⟨h', [_, _, _, _, _], .done, some (.exit 1), rfl, V', by simp, fun h'' E'' => ?_⟩
     have hun : uselessN m (k + 1) = uselessN m k := by rw [uselessN_succ, if_neg (by rw [I1]; decide), List.append_nil]
     refine zA ?_
     refine wE [_, _, _, _, _] rfl ?_
     refine qC rfl ?_
     refine qA (qX rfl (by omega)) ?_
     refine qA (qD (v := .int .i64 _) rfl) ?_
     refine ⟨(k + 1, a), ⟨rfl, rfl, trivial⟩, (by first | exact hD_k | exact allMarks_cons hD_k), rfl, (zL (zL (zL (zL (zL E_k G1) E7) E8) E') E''), fun h3 E3 => ⟨hkl, by rw [hun]; exact K2⟩, by first | omega | (dsimp only; omega), ?_⟩
     repeat (first | exact wK _ _ _ | refine wM (by decide) ?_ | refine wJ rfl ?_ | refine wN rfl ?_)
    ·refine ⟨h', [_, _, _, _, _], .ready, none, rfl, V', by simp, fun h'' E'' => ?_⟩
     have hun : uselessN m (k + 1) = uselessN m k ++ [(k : Int)] := by rw [uselessN_succ, if_pos (useless_yes I1)]
     have hul := uselessN_len m k
     refine wE [_, _, _, _, _] rfl ?_
     refine qC rfl ?_
     refine qA (qD (v := .slice _ _ _) rfl) ?_
     refine qA (qD (v := .int .i64 _) rfl) ?_
     refine qK (zc := [_]) (vs := [(0, .int .i64 _)]) (cs := [_]) rfl rfl rfl rfl rfl rfl rfl fun b40 hb40 => ?_
     refine qH [_, _, _, _, _, _] rfl ?_
     refine zF 2 K2 rfl rfl rfl (fun V => rdP V (i := 5) rfl) rfl rfl rfl rfl rfl rfl rfl rfl rfl (by omega) rfl (by rw [zE (m := 1) (fun _ _ => rfl)]; simp; omega) fun a2 h2a E2a ha2 => ?_
     refine qH [_, _, _, _, _, _] rfl ?_
     refine qA (qF (v := .slice _ _ _) rfl) ?_
     refine qC rfl ?_
     refine qA (qX rfl (by omega)) ?_
     refine qA (qD (v := .int .i64 _) rfl) ?_
     refine ⟨(k + 1, a2), ⟨rfl, rfl, trivial⟩, (by first | exact hD_k | exact allMarks_cons hD_k), rfl, (zL (zL (zL (zL (zL (zL E_k G1) E7) E8) E') E'') E2a), fun h3 E3 => ⟨hkl, by rw [hun, List.flatMap_append]; exact ha2⟩, by first | omega | (dsimp only; omega), ?_⟩
     repeat (first | exact wK _ _ _ | refine wM (by decide) ?_ | refine wJ rfl ?_ | refine wN rfl ?_)
  ·skip
   have hke : k = m.pins.length := by have := geI hk; omega
   subst hke
   refine zA ?_
   refine qE ?_
   refine qC rfl ?_
   refine qA (qD (v := .slice _ _ _) rfl) ?_
   refine qA (qF (v := .slice _ _ _) rfl) ?_
   refine qA (qF (v := .int .i64 _) rfl) ?_
   refine wD ?_
   refine res_listM (vs := [_, _]) hD_k Tryd.results37 ⟨qM rfl rfl, qM rfl rfl, trivial⟩ fun hM EM V => ?_
   exact ⟨zL (zL (zL E13 E6) E_k) (zL EM (qZ V)), _, rfl, AccP.row (i := 2) K2 (by omega) (fun _ _ => rfl) V rfl⟩
end
end Go.Proofs.YtmpahfdiebhdbaaDoor
namespace Go.Proofs.YtmpahfdiebhdbaaDoor
open Go Go.HL Go.Proofs Go.Wx Go.Rd
section
variable [Lvl]
set_option maxRecDepth 100000
end
end Go.Proofs.YtmpahfdiebhdbaaDoor
namespace Go.Proofs.YtmpahfdiebhdbaaDoor
open Go Go.HL Go.Proofs Go.Wx Go.Rd
section
variable [Lvl]
set_option maxRecDepth 100000
end
end Go.Proofs.YtmpahfdiebhdbaaDoor
namespace Go.Proofs.YtmpahfdiebhdbaaDoor
open Go Go.HL Go.Proofs Go.Wx Go.Rd
section
variable [Lvl]
set_option maxRecDepth 100000
def scanB (out : List (List Int)) (s : List Int) : Bool := decide (s.length > 2) || (decide (out.length > 0) && decide (s.length > (out.headD []).length))
def scanF (E : List Int → Bool) : List (List Int) → List (List Int) → List (List Int)
 | out, [] => out
 | out, s :: ss => if scanB out s then out else scanF E (if E s then out ++ [s] else out) ss
theorem scan_block {E : List Int → Bool} {j : Nat} (hj : j ≤ 2) : ∀ (ss tt out : List (List Int)), (∀ s ∈ ss, s.length = j) → (∀ o ∈ out, o.length = j) → scanF E out (ss ++ tt) = scanF E (out ++ ss.filter E) tt
 | [], tt, out, _, _ => by simp
 | s :: ss, tt, out, hs, ho => by
  have hsj := hs s (List.mem_cons_self ..)
  have hb : scanB out s = false := by
   unfold scanB
   cases out with
   | nil => simp; omega
   | cons o out => have := ho o (List.mem_cons_self ..); simp; omega
  rw [List.cons_append, scanF, hb]
  simp only [Bool.false_eq_true, if_false]
  by_cases he : E s = true
  ·rw [if_pos he, scan_block hj ss tt (out ++ [s]) (fun x hx => hs x (List.mem_cons_of_mem _ hx)) (mem_one ho hsj), List.filter_cons_of_pos he]
   simp
  ·rw [if_neg he, scan_block hj ss tt out (fun x hx => hs x (List.mem_cons_of_mem _ hx)) ho, List.filter_cons_of_neg he]
theorem scan_end {E : List Int → Bool} {out tt : List (List Int)} (h : ∀ s ∈ tt, scanB out s = true) : scanF E out tt = out := by
 cases tt with
 | nil => rfl
 | cons s tt => rw [scanF, if_pos (h s (List.mem_cons_self ..))]
def fewJ (m : MachP) (hs : List HeardP) (j : Nat) : List (List Int) := (chosM (faultsM m).length j 0).filter fun s => explainsB m (pickL m s) hs
def fewestL (m : MachP) (hs : List HeardP) : List (List Int) := scanF (fun s => explainsB m (pickL m s) hs) [] (setsM (faultsM m).length)
theorem few_len {m : MachP} {hs : List HeardP} {j : Nat} : ∀ o ∈ fewJ m hs j, o.length = j := fun o ho => (chos_set (List.mem_filter.1 ho).1).2
theorem fewest_eq {m : MachP} (hs : List HeardP) (hn : 2 ≤ (faultsM m).length) : fewestL m hs = if fewJ m hs 0 ≠ [] then fewJ m hs 0 else if fewJ m hs 1 ≠ [] then fewJ m hs 1 else fewJ m hs 2 := by
 obtain ⟨n, hnn⟩ : ∃ n, n = (faultsM m).length := ⟨_, rfl⟩
 obtain ⟨E, hE⟩ : ∃ E : List Int → Bool, E = fun s => explainsB m (pickL m s) hs := ⟨_, rfl⟩
 have e1 : setsM n = chosM n 0 0 ++ (chosM n 1 0 ++ (chosM n 2 0 ++ (List.range' 3 (n - 2)).flatMap fun j => chosM n j 0)) := by
  rw [setsM_eq]
  unfold choP
  rw [show n + 1 = 3 + (n - 2) by omega, ← List.range'_append_1, List.flatMap_append]
  simp [List.range']
 have hf : ∀ j, fewJ m hs j = (chosM n j 0).filter E := fun j => by rw [hnn, hE]; rfl
 have hsz : ∀ j, ∀ s ∈ chosM n j 0, s.length = j := fun j s h => (chos_set h).2
 have hrest : ∀ s ∈ (List.range' 3 (n - 2)).flatMap (fun j => chosM n j 0), 3 ≤ s.length := fun s h => by
  obtain ⟨j, hj, hs'⟩ := List.mem_flatMap.1 h
  have := List.mem_range'_1.1 hj
  rw [hsz j s hs']
  omega
 have hb : ∀ (out : List (List Int)) (j : Nat) (s : List Int), out ≠ [] → (∀ o ∈ out, o.length = j) → j < s.length → scanB out s = true := fun out j s h1 h2 h3 => by
  unfold scanB
  cases out with
  | nil => exact absurd rfl h1
  | cons o out => have := h2 o (List.mem_cons_self ..); simp; omega
 have hb3 : ∀ (out : List (List Int)) (s : List Int), 3 ≤ s.length → scanB out s = true := fun out s h => by unfold scanB; simp; omega
 rw [fewestL, ← hnn, ← hE, e1, scan_block (j := 0) (by omega) _ _ _ (hsz 0) (fun o h => absurd h List.not_mem_nil), List.nil_append, ← hf]
 by_cases h0 : fewJ m hs 0 = []
 ·rw [if_neg (by simp [h0]), h0, scan_block (j := 1) (by omega) _ _ _ (hsz 1) (fun o h => absurd h List.not_mem_nil), List.nil_append, ← hf]
  by_cases h1 : fewJ m hs 1 = []
  ·rw [if_neg (by simp [h1]), h1, scan_block (j := 2) (by omega) _ _ _ (hsz 2) (fun o h => absurd h List.not_mem_nil), List.nil_append, ← hf]
   exact scan_end fun s hs => hb3 _ s (hrest s hs)
  ·rw [if_pos h1]
   refine scan_end fun s hs => hb _ 1 s h1 few_len ?_
   rcases List.mem_append.1 hs with h | h
   ·rw [hsz 2 s h]; omega
   ·have := hrest s h; omega
 ·rw [if_pos h0]
  refine scan_end fun s hs => hb _ 0 s h0 few_len ?_
  rcases List.mem_append.1 hs with h | h
  ·rw [hsz 1 s h]; omega
  ·rcases List.mem_append.1 h with h | h
   ·rw [hsz 2 s h]; omega
   ·have := hrest s h; omega
end
end Go.Proofs.YtmpahfdiebhdbaaDoor
namespace Go.Proofs.YtmpahfdiebhdbaaDoor
open Go Go.HL Go.Proofs Go.Wx Go.Rd
section
variable [Lvl]
set_option maxRecDepth 100000
theorem op_loadW1' {P : Program} {n : Nat} {ops : Array Oper} {d : Option Tmp} {ty : TypeId} {ps : String} {af : Array Edge} {os : List Oper} {K : Sl → Pv → AH → Prop} {E : Value → Sl → Pv → AH → Prop} {S : Sl} {L : Pv} {h : AH} {t : TypeId} {x : Operand} {g off : Nat} {v : Value} (hx : ev n S x = .pointer (some ⟨g, off, none⟩)) (ha : pev P (isAgg t) = some false)
  (hc : Valid h L → Cells (wl h L) g off [v]) (k : wpL P n ops os K E (put S d v) L h) : wpL P n ops (⟨d, .load t x, ty, ps, af, none⟩ :: os) K E S L h := by
 refine op_of fun V => ?_
 unfold opW
 simp only [execOp, hx, Instr.loadAt, Instr.sureAddr]
 refine wB (qU (a := ⟨g, off, none⟩) rfl (qU ha ?_))
 exact ⟨v, hc V 0 v rfl, L, h, rfl, V, k⟩
theorem acc_at {α : Type} {e : TypeId} {m : Nat} {enc : α → List Value} {l : List α} {a : Acc} (r : AccR e m (l.flatMap enc) a) (hl : ∀ x ∈ l, (enc x).length = m) (hm : 0 < m) {i : Nat} (hi : i < l.length) :
  ∃ g, a.A = some ⟨g, 0, none⟩ ∧ ∀ (h : AH) (L : Pv) (j : Nat), L[j]? = some a.p → Valid h L → Cells (wl h L) g (0 + i * m) (enc l[i]) := by
 have hx : l[i]? = some l[i] := List.getElem?_eq_getElem hi
 have hfl := zE hl
 rcases r with ⟨_, e0, A, ev⟩ | ⟨b, len, cap, junk, hlen, ev, hpp, _⟩
 ·exfalso
  rw [e0] at hfl
  have : 0 < l.length * m := Nat.mul_pos (by omega) hm
  simp at hfl
  omega
 ·injection ev with h1 _ _
  refine ⟨b, h1, fun h L j hj V => ?_⟩
  rw [hpp] at hj
  intro q u hu
  have h2 := flat_get enc m l hl i l[i] hx q u hu
  have h3 : (l.flatMap enc ++ junk)[i * m + q]? = some u := by rw [List.getElem?_append_left (List.getElem?_eq_some_iff.1 h2).1]; exact h2
  simp only [cellA, zC V hj]
  rw [show 0 + i * m + q = i * m + q from by omega]
  simpa using h3
def ScanI (E : List Int → Bool) (all : List (List Int)) (p2 p3 p6 : Nat × Obj) (b7 l : Nat) (t7 te : TypeId) (r : Loop) (h0 : AH) (k : Nat) (h : AH) (M : Pv) : Prop :=
 Ext h0 h ∧ ∃ (a : Acc) (cs : List (List Value)) (out : List (List Int)), (scanF E out (all.drop k) = scanF E [] all ∧ out.length ≤ k) ∧ AccR te 1 (cs.flatMap id) a ∧ Els h TL out cs ∧ (∀ x ∈ cs, x.length = 1) ∧
  M = [some p2, some p3, some p6, some (b7, .cells #[.slice a.A a.n a.c] t7 (0, 0)), a.p, some (l, obL r .ready none)]
def ScanF (E : List Int → Bool) (all : List (List Int)) (p2 p3 p6 : Nat × Obj) (b7 l : Nat) (t7 te : TypeId) (r : Loop) (h0 : AH) (h : AH) (M : Pv) : Prop :=
 Ext h0 h ∧ ∃ (a : Acc) (cs : List (List Value)) (out : List (List Int)), (out = scanF E [] all ∧ out.length ≤ all.length) ∧ AccR te 1 (cs.flatMap id) a ∧ Els h TL out cs ∧ (∀ x ∈ cs, x.length = 1) ∧
  M = [some p2, some p3, some p6, some (b7, .cells #[.slice a.A a.n a.c] t7 (0, 0)), a.p, some (l, obL r .done (some (.exit 0)))]
theorem ScanI.ext {E : List Int → Bool} {all : List (List Int)} {p2 p3 p6 : Nat × Obj} {b7 l : Nat} {t7 te : TypeId} {r : Loop} {h0 h h' : AH} {k : Nat} {M : Pv} (I : ScanI E all p2 p3 p6 b7 l t7 te r h0 k h M) (X : Ext h h') : ScanI E all p2 p3 p6 b7 l t7 te r h0 k h' M := by
 obtain ⟨E0, a, cs, out, e1, e2, e3, e4, e5⟩ := I
 exact ⟨E0.trans X, a, cs, out, e1, e2, e3.ext TL.mono X, e4, e5⟩
theorem ScanF.ext {E : List Int → Bool} {all : List (List Int)} {p2 p3 p6 : Nat × Obj} {b7 l : Nat} {t7 te : TypeId} {r : Loop} {h0 h h' : AH} {M : Pv} (I : ScanF E all p2 p3 p6 b7 l t7 te r h0 h M) (X : Ext h h') : ScanF E all p2 p3 p6 b7 l t7 te r h0 h' M := by
 obtain ⟨E0, a, cs, out, e1, e2, e3, e4, e5⟩ := I
 exact ⟨E0.trans X, a, cs, out, e1, e2, e3.ext TL.mono X, e4, e5⟩
theorem setsM_len24 {n : Nat} (hn : n ≤ 24) : (setsM n).length ≤ 419430400 := by
 have key : ∀ k, k ≤ n + 1 → (choP (fun m => chosM n m 0) 0 k).length ≤ k * 16777216 := by
  intro k
  induction k with
  | zero => intro _; simp [choP_zero]
  | succ k ih =>
   intro hk
   have h0 := ih (by omega)
   have h1 := chos_len (n := n) (0 + k) 0
   have h2 : 2 ^ (n - 0) ≤ 2 ^ 24 := Nat.pow_le_pow_right (by omega) (by omega)
   rw [choP_succ, List.length_append, Nat.add_mul]
   omega
 have h := key (n + 1) (Nat.le_refl _)
 rw [setsM_eq]
 omega
set_option maxHeartbeats 8000000 in
theorem fewest_ok (hph : Lvl.ph = true) (m : MachP) (M : MOK m) (hn : (faultsM m).length ≤ 24) (hs : List HeardP) (X : ∀ x ∈ hs, HeardOK m x) (hl2 : hs.length < 2 ^ 40) (AB AQ AL AW UA : Option Addr) (cB cQ cL cW cU : Nat) (cs : List (List Value)) (h : AH) (RM : MachR h AB AQ AL AW m) (R : Row h 3 id UA cs) (EL : Els h TU hs cs) :
  FnT Tryd.prog 60 #[machV AB AQ AL AW cB cQ cL cW m, .slice UA hs.length cU] h (fun v h' => ∃ L, v = .tuple #[L, .bool (decide ((fewestL m hs).length > 0))] ∧ SlL h' (fewestL m hs) L) := by
 have mlv := M.levers
 have mpl := M.pl
 have mll := M.ll
 refine wL Tryd.func60 rfl Tryd.ntmps60 rfl ?_
 refine qE ?_
 refine qC rfl ?_
 refine op_box (v := .agg #[.int .i64 _, .int .i64 _, .int .i64 _, .int .i64 _, .int .i64 _, .slice _ _ _, .slice _ _ _, .slice _ _ _, .slice _ _ _]) (cs := [_, _, _, _, _, _, _, _, _]) rfl rfl fun b2 hb2 => ?_
 refine qH [_] rfl ?_
 refine op_box (v := .slice _ _ _) (cs := [_]) rfl rfl fun b3 hb3 => ?_
 refine qH [_, _] rfl ?_
 refine qA (qF (v := .slice _ _ _) rfl) ?_
 refine qA (qF (v := .bool _) rfl) ?_
 refine qE ?_
 refine qC rfl ?_
 refine wH 0 (vs := [.int .i64 _, .int .i64 _, .int .i64 _, .int .i64 _, .int .i64 _, .slice _ _ _, .slice _ _ _, .slice _ _ _, .slice _ _ _]) rfl rfl rfl rfl rfl ?_
 refine qV (caps := []) (vs := [.agg #[.int .i64 _, .int .i64 _, .int .i64 _, .int .i64 _, .int .i64 _, .slice _ _ _, .slice _ _ _, .slice _ _ _, .slice _ _ _]]) rfl rfl rfl (faults_ok m (by omega) (by omega) (by omega) AB AQ AL AW cB cQ cL cW h) ?_
 rintro _ h4 E4 ⟨FA, cF, rfl, RF⟩
 refine wW (cs := [_]) rfl rfl fun b6 hb6 => ?_
 refine qH [_, _, _] rfl ?_
 refine wG 2 (v := .slice _ _ _) (vs := [_]) (c' := [_]) rfl rfl rfl rfl rfl rfl rfl rfl rfl ?_
 refine qH [_, _, _] rfl ?_
 refine qE ?_
 refine qC rfl ?_
 refine wW (cs := [_]) rfl rfl fun b7 hb7 => ?_
 refine qH [_, _, _, _] rfl ?_
 refine goes_more ?_
 refine wE [_, _, _, _, _] rfl ?_
 refine qE ?_
 refine qE ?_
 refine qC rfl ?_
 refine qN 2 (v := .slice _ _ _) rfl rfl rfl rfl ?_
 refine qA (wP rfl rfl) ?_
 refine qV (caps := []) (vs := [.int .i64 _]) rfl rfl rfl (choices_ok (faultsM m).length (by omega) _ rfl h4) ?_
 rintro y h7 E7 It
 refine qT ?_
 obtain ⟨Ef, hEf⟩ : ∃ Ef : List Int → Bool, Ef = fun s => explainsB m (pickL m s) hs := ⟨_, rfl⟩
 obtain ⟨all, hall⟩ : ∃ all, all = setsM (faultsM m).length := ⟨_, rfl⟩
 have hal : all.length ≤ 419430400 := by rw [hall]; exact setsM_len24 hn
 rw [show fewestL m hs = scanF Ef [] all by rw [hEf, hall]; rfl]
 rw [← hall] at It
 have E07 := (zL E4 E7)
 have RM7 := RM.ext (zL E4 E7)
 have RF7 := RF.ext E7
 have R7 := R.ext (zL E4 E7)
 have EL7 := EL.ext TU.mono (zL E4 E7)
 refine xp_rangeFunc rfl ?_
 intro r l lp htm hpr has hbd V0
 refine CallV.mono (It (.yield l) #[] #[] (ScanI Ef all (b2, .cells #[.int .i64 m.rods, .int .i64 m.levers, .int .i64 m.regs, .int .i64 m.travel, .int .i64 m.opn, .slice AB m.buttons.length cB, .slice AQ m.pins.length cQ, .slice AL m.links.length cL, .slice AW m.weights.length cW] 26 (0, 0)) (b3, .cells #[.slice UA hs.length cU] 57 (0, 0)) (b6, .cells #[.slice FA (faultsM m).length cF] 93 (0, 0)) b7 l 37 22 lp h7) (ScanF Ef all (b2, .cells #[.int .i64 m.rods, .int .i64 m.levers, .int .i64 m.regs, .int .i64 m.travel, .int .i64 m.opn, .slice AB m.buttons.length cB, .slice AQ m.pins.length cQ, .slice AL m.links.length cL, .slice AW m.weights.length cW] 26 (0, 0)) (b3, .cells #[.slice UA hs.length cU] 57 (0, 0)) (b6, .cells #[.slice FA (faultsM m).length cF] 93 (0, 0)) b7 l 37 22 lp h7) (fun k h1 h2 M E I => I.ext E) (fun h1 h2 M E I => I.ext E) ?_ h7 _ (Ext.refl _) ⟨Ext.refl _, acc0, [], [], ⟨rfl, Nat.le_refl _⟩, accR0, Els.nil _ _, fun _ hx => absurd hx List.not_mem_nil, rfl⟩ V0) ?_ (fun _ _ y => y)
 ·rintro k s v hcl M' hk hT ⟨E9, a, ds, out, ⟨I1, I2⟩, I3, I4, I5, rfl⟩
  obtain ⟨BA, cBA, rfl, RB⟩ := hT
  obtain ⟨hkl, hke⟩ := List.getElem?_eq_some_iff.1 hk
  have hSs : SetOK s (faultsM m).length := setsM_set (by rw [← hall]; exact List.mem_of_getElem? hk)
  have hsl := set_len hSs
  rw [List.drop_eq_getElem_cons hkl, hke] at I1
  have hdl : (ds.flatMap id).length = out.length := by rw [zE (enc := id) (m := 1) I5, I4.1]; omega
  have han : a.n = out.length := by have := AccR.len I3; omega
  intro V
  refine callV_yield (zC V (i := 5) rfl) hpr rfl htm has hbd ?_
  refine round_enter (i := 5) (r := lp) ?_ V
  refine wE [_, _, _, _, _, _] rfl ?_
  refine qC rfl ?_
  refine qA (qF (v := .slice _ _ _) rfl) ?_
  refine ⟨rfl, none, rfl, ?_⟩
  refine wE [_, _, _, _, _, _] rfl ?_
  refine qT ?_
  refine qE ?_
  refine xp_cutB [15, 16, 17, 18, 19, 20, 21, 22, 23, 24, 25, 26, 27, 28, 29, 30, 31] 6 (α := Unit) (fun u => [(31, .bool (scanB out s))]) (fun u L => L) (fun u h_u => True) ?_ ?_
  ·skip
   by_cases hA : 2 < s.length
   ·have hA' : decide ((s.length : Int) > 2) = true := decide_eq_true (by omega)
    have hsb : scanB out s = true := by unfold scanB; simp; omega
    refine qC rfl ?_
    refine qA (qD (v := .slice _ _ _) rfl) ?_
    refine qA (wP rfl rfl) ?_
    refine qA (qJ (v := .bool _) rfl) ?_
    refine qA (qD (v := .bool _) rfl) ?_
    refine qR rfl hA' ?_
    refine qR rfl hA' ?_
    refine qR rfl hA' ?_
    refine qR rfl hA' ?_
    refine guard_un rfl ?_
    refine guard_un rfl ?_
    refine guard_un rfl ?_
    refine guard_un rfl ?_
    refine guard_un rfl ?_
    refine guard_un rfl ?_
    refine guard_un rfl ?_
    refine qR rfl hA' ?_
    refine qA (wV rfl hA' (v := .bool _) rfl) ?_
    refine ⟨(), ⟨(by rw [hsb]; rfl), trivial⟩, rfl, rfl, (Ext.refl _), fun h3 E3 => by first | trivial | omega | (refine ⟨?_, ?_⟩ <;> omega), ?_⟩
    repeat (first | exact zG _ _ | exact wK _ _ _ | refine wM (by decide) ?_ | refine wJ rfl ?_ | refine wN rfl ?_)
   ·have hA' : decide ((s.length : Int) > 2) = false := decide_eq_false (by omega)
    rcases Nat.eq_zero_or_pos out.length with h0 | h0
    ·have hB' : decide ((a.n : Int) > 0) = false := decide_eq_false (by omega)
     have hsb : scanB out s = false := by rw [List.length_eq_zero_iff.1 h0]; unfold scanB; simp; omega
     refine qC rfl ?_
     refine qA (qD (v := .slice _ _ _) rfl) ?_
     refine qA (wP rfl rfl) ?_
     refine qA (qJ (v := .bool _) rfl) ?_
     refine qA (qD (v := .bool _) rfl) ?_
     refine qG rfl hA' ?_
     refine qN 3 (v := .slice _ _ _) rfl rfl rfl rfl ?_
     refine qG rfl hA' ?_
     refine qA (wP rfl rfl) ?_
     refine qG rfl hA' ?_
     refine qA (qJ (v := .bool _) rfl) ?_
     refine qG rfl hA' ?_
     refine qA (qD (v := .bool _) rfl) ?_
     refine qR rfl hB' ?_
     refine qR rfl hB' ?_
     refine qR rfl hB' ?_
     refine qR rfl hB' ?_
     refine qR rfl hB' ?_
     refine qR rfl hB' ?_
     refine qR rfl hB' ?_
     refine qG rfl hA' ?_
     refine qA (wI rfl hB' (v := .bool _) rfl) ?_
     refine qA (wI rfl hA' (v := .bool _) rfl) ?_
     refine ⟨(), ⟨(by rw [hsb]; rfl), trivial⟩, rfl, rfl, (Ext.refl _), fun h3 E3 => by first | trivial | omega | (refine ⟨?_, ?_⟩ <;> omega), ?_⟩
     repeat (first | exact zG _ _ | exact wK _ _ _ | refine wM (by decide) ?_ | refine wJ rfl ?_ | refine wN rfl ?_)
    ·have hB' : decide ((a.n : Int) > 0) = true := decide_eq_true (by omega)
     have h0d : 0 < ds.length := by rw [I4.1]; exact h0
     obtain ⟨hoc, y0, e0, XA, cX, rfl, RX⟩ := I4.at h0
     obtain ⟨gq, hAs, hcs⟩ := acc_at (enc := id) I3 I5 (by omega) h0d
     have hid : id ds[0] = [.slice XA out[0].length cX] := e0
     have hsb : scanB out s = decide ((s.length : Int) > (out[0].length : Int)) := by
      have hh : out.headD [] = out[0] := by cases out with | nil => simp at h0 | cons _ _ => rfl
      unfold scanB
      rw [hh, Bool.eq_iff_iff]
      simp
      omega
     refine qC rfl ?_
     refine qA (qD (v := .slice _ _ _) rfl) ?_
     refine qA (wP rfl rfl) ?_
     refine qA (qJ (v := .bool _) rfl) ?_
     refine qA (qD (v := .bool _) rfl) ?_
     refine qG rfl hA' ?_
     refine qN 3 (v := .slice _ _ _) rfl rfl rfl rfl ?_
     refine qG rfl hA' ?_
     refine qA (wP rfl rfl) ?_
     refine qG rfl hA' ?_
     refine qA (qJ (v := .bool _) rfl) ?_
     refine qG rfl hA' ?_
     refine qA (qD (v := .bool _) rfl) ?_
     refine qG rfl hB' ?_
     refine qA (qD (v := .slice _ _ _) rfl) ?_
     refine qG rfl hB' ?_
     refine qA (wP rfl rfl) ?_
     refine qG rfl hB' ?_
     refine qN 3 (v := .slice _ _ _) rfl rfl rfl rfl ?_
     refine qG rfl hB' ?_
     refine qA (wU (m := 1) rfl hAs rfl rfl rfl (by omega) (by omega)) ?_
     refine qG rfl hB' ?_
     refine op_loadW1' (v := .slice XA out[0].length cX) rfl rfl (fun V => by rw [← hid]; exact hcs _ _ 4 rfl V) ?_
     refine qG rfl hB' ?_
     refine qA (wP rfl rfl) ?_
     refine qG rfl hB' ?_
     refine qA (qJ (v := .bool _) rfl) ?_
     refine qG rfl hA' ?_
     refine qA (wV rfl hB' (v := .bool _) rfl) ?_
     refine qA (wI rfl hA' (v := .bool _) rfl) ?_
     refine ⟨(), ⟨(by rw [hsb]; rfl), trivial⟩, rfl, rfl, (Ext.refl _), fun h3 E3 => by first | trivial | omega | (refine ⟨?_, ?_⟩ <;> omega), ?_⟩
     repeat (first | exact zG _ _ | exact wK _ _ _ | refine wM (by decide) ?_ | refine wJ rfl ?_ | refine wN rfl ?_)
  ·rintro u T1 h_u E_u J_u
   refine wE [_, _, _, _, _, _] rfl ?_
   refine wA rfl (fun hb => ?_) (fun hb => ?_)
   ·skip
    have hst : scanF Ef out (s :: all.drop (k + 1)) = out := by rw [scanF, if_pos hb]
    refine zA ?_
    intro V2
    have V3 := valid_set (o' := obL lp .done (some (.exit 0))) V2 (i := 5) rfl
    exact ⟨rfl, ⟨_, _, rfl⟩, _, _, rfl, V3, E_u, .inr ⟨rfl, zL E9 E_u, a, ds, out, ⟨hst.symm.trans I1, by omega⟩, I3, I4.ext TL.mono E_u, I5, rfl⟩⟩
   ·skip
    have hst : scanF Ef out (s :: all.drop (k + 1)) = scanF Ef (if Ef s then out ++ [s] else out) (all.drop (k + 1)) := by rw [scanF, hb]; rfl
    have hpf := pickL_fok M (l := s) hSs.mem
    refine qP ?_
    refine qE ?_
    refine xp_dw [] rfl rfl rfl ?_
    refine wQ (i := 0) rfl (by decide +kernel) ?_
    refine wH 0 (vs := [.int .i64 _, .int .i64 _, .int .i64 _, .int .i64 _, .int .i64 _, .slice _ _ _, .slice _ _ _, .slice _ _ _, .slice _ _ _]) rfl rfl rfl rfl rfl ?_
    refine wQ (i := 1) rfl (by decide +kernel) ?_
    refine qN 2 (v := .slice _ _ _) rfl rfl rfl rfl ?_
    refine qO (i := 2) rfl (by decide +kernel) (qD (v := .slice _ _ _) rfl) ?_
    refine wQ (i := 4) rfl (by decide +kernel) ?_
    refine qN 1 (v := .slice _ _ _) rfl rfl rfl rfl ?_
    refine dw_eff (i := 3) rfl (by decide +kernel) ?_
    refine qV (caps := []) (vs := [.slice _ _ _, .slice _ _ _]) rfl rfl rfl (pick_ok (faultsM m) (by omega) s (by omega) (fun n hn => hSs.mem n hn) FA BA cF cBA h_u (RF7.ext (zL E9 E_u)) (RB.ext E_u)) ?_
    rintro _ h10 E10 ⟨PA, cP, rfl, RP⟩
    refine ⟨ext_wlm E10 _, ?_⟩
    refine dw_last (i := 5) rfl (by decide +kernel) (by decide +kernel) ?_
    refine qV (caps := []) (vs := [.agg #[.int .i64 _, .int .i64 _, .int .i64 _, .int .i64 _, .int .i64 _, .slice _ _ _, .slice _ _ _, .slice _ _ _, .slice _ _ _], .slice _ _ _, .slice _ _ _]) rfl rfl rfl (explains_ok hph m M (pickL m s) hpf (by rw [pickL, List.length_map]; omega) hs X hl2 AB AQ AL AW PA UA cB cQ cL cW cP cU cs h10 (RM7.ext (zL E9 (zL E_u E10))) RP (R7.ext (zL E9 (zL E_u E10))) (EL7.ext TU.mono (zL E9 (zL E_u E10)))) ?_
    rintro _ h11 E11 rfl
    rw [show explainsB m (pickL m s) hs = Ef s by rw [hEf]]
    refine dw_end rfl ?_
    refine wA rfl (fun he => ?_) (fun he => ?_)
    ·skip
     rw [if_pos he] at hst
     refine qC rfl ?_
     refine qN 3 (v := .slice _ _ _) rfl rfl rfl rfl ?_
     refine qA (qD (v := .slice _ _ _) rfl) ?_
     refine qK (zc := [_]) (vs := [(0, .slice _ _ _)]) (cs := [_]) rfl rfl rfl rfl rfl rfl rfl fun b40 hb40 => ?_
     refine qH [_, _, _, _, _, _, _] rfl ?_
     refine zF 4 I3 rfl rfl rfl (fun V => rdP V (i := 6) rfl) rfl rfl rfl rfl rfl rfl rfl rfl rfl (by omega) rfl (by rw [hdl]; simp; omega) fun a2 h2a E2a ha2 => ?_
     refine qH [_, _, _, _, _, _, _] rfl ?_
     refine wG 3 (v := .slice _ _ _) (vs := [_]) (c' := [_]) rfl rfl rfl rfl rfl rfl rfl rfl rfl ?_
     refine qH [_, _, _, _, _, _, _] rfl ?_
     intro V2
     have V3 := valid_set (o' := obL lp .ready none) V2 (i := 5) rfl
     obtain ⟨h99, E99, e9, V9⟩ := wl_drop [_] [_, _, _, _, _, _] V3
     exact ⟨rfl, ⟨_, _, rfl⟩, h99, _, e9, V9, zL (zL (zL (zL E_u E10) E11) E2a) E99, .inl ⟨rfl, zL E9 (zL (zL (zL (zL E_u E10) E11) E2a) E99), a2, ds ++ [[.slice BA s.length cBA]], out ++ [s], ⟨hst.symm.trans I1, by simp; omega⟩, by rw [List.flatMap_append]; exact ha2, ((I4.ext TL.mono (zL (zL (zL E_u E10) E11) E2a)).snoc ⟨_, rfl, BA, cBA, rfl, RB.ext (zL (zL (zL E_u E10) E11) E2a)⟩).ext TL.mono E99, one_len I5 rfl, rfl⟩⟩
    ·skip
     rw [if_neg (by rw [he]; decide)] at hst
     refine qP ?_
     intro V2
     have V3 := valid_set (o' := obL lp .ready none) V2 (i := 5) rfl
     exact ⟨rfl, ⟨_, _, rfl⟩, _, _, rfl, V3, (zL (zL E_u E10) E11), .inl ⟨rfl, zL E9 (zL (zL E_u E10) E11), a, ds, out, ⟨hst.symm.trans I1, by omega⟩, I3, I4.ext TL.mono (zL (zL E_u E10) E11), I5, rfl⟩⟩
 ·rintro v H ⟨h', M', rfl, V', E', ⟨E9, a, ds, out, ⟨I1, I2⟩, I3, I4, I5, rfl⟩ | ⟨E9, a, ds, out, ⟨I1, I2⟩, I3, I4, I5, rfl⟩⟩
  rotate_left
  ·refine ⟨h', [_, _, _, _, _], .done, some (.exit 0), rfl, V', by simp, fun h'' E'' => ?_⟩
   obtain ⟨p8, A8, n8, c8⟩ := a
   obtain rfl : n8 = out.length := by have := AccR.len I3; rw [zE (enc := id) (m := 1) I5, I4.1] at this; dsimp only at this; omega
   dsimp only at *
   rw [← I1]
   refine zA ?_
   refine wE [_, _, _, _, _] rfl ?_
   refine qE ?_
   refine xp_dw [] rfl rfl rfl ?_
   refine wQ (i := 0) rfl (by decide +kernel) ?_
   refine qN 3 (v := .slice _ _ _) rfl rfl rfl rfl ?_
   refine wQ (i := 1) rfl (by decide +kernel) ?_
   refine qN 3 (v := .slice _ _ _) rfl rfl rfl rfl ?_
   refine qO (i := 2) rfl (by decide +kernel) (wP rfl rfl) ?_
   refine qO (i := 3) rfl (by decide +kernel) (qJ (v := .bool _) rfl) ?_
   refine qO (i := 4) rfl (by decide +kernel) (qF (v := .slice _ _ _) rfl) ?_
   refine qO (i := 5) rfl (by decide +kernel) (qF (v := .bool _) rfl) ?_
   refine dw_end rfl ?_
   refine wD ?_
   refine res_listM (vs := [_, _]) rfl Tryd.results60 ⟨qM rfl rfl, qM rfl rfl, trivial⟩ fun hM EM V => ?_
   exact ⟨zL (zL (zL (zL E4 E7) E') E'') (zL EM (qZ V)), _, by simp; rfl, SlX.acc (i := 4) I3 (by omega) I5 V rfl (I4.ext TL.mono (zL E'' (zL EM (qZ V))))⟩
  ·refine ⟨h', [_, _, _, _, _], .ready, none, rfl, V', by simp, fun h'' E'' => ?_⟩
   have hst : out = scanF Ef [] all := by rw [List.drop_of_length_le (by omega)] at I1; exact I1
   obtain ⟨p8, A8, n8, c8⟩ := a
   obtain rfl : n8 = out.length := by have := AccR.len I3; rw [zE (enc := id) (m := 1) I5, I4.1] at this; dsimp only at this; omega
   dsimp only at *
   rw [← hst]
   refine wE [_, _, _, _, _] rfl ?_
   refine qE ?_
   refine xp_dw [] rfl rfl rfl ?_
   refine wQ (i := 0) rfl (by decide +kernel) ?_
   refine qN 3 (v := .slice _ _ _) rfl rfl rfl rfl ?_
   refine wQ (i := 1) rfl (by decide +kernel) ?_
   refine qN 3 (v := .slice _ _ _) rfl rfl rfl rfl ?_
   refine qO (i := 2) rfl (by decide +kernel) (wP rfl rfl) ?_
   refine qO (i := 3) rfl (by decide +kernel) (qJ (v := .bool _) rfl) ?_
   refine qO (i := 4) rfl (by decide +kernel) (qF (v := .slice _ _ _) rfl) ?_
   refine qO (i := 5) rfl (by decide +kernel) (qF (v := .bool _) rfl) ?_
   refine dw_end rfl ?_
   refine wD ?_
   refine res_listM (vs := [_, _]) rfl Tryd.results60 ⟨qM rfl rfl, qM rfl rfl, trivial⟩ fun hM EM V => ?_
   exact ⟨zL (zL (zL (zL E4 E7) E') E'') (zL EM (qZ V)), _, by simp; rfl, SlX.acc (i := 4) I3 (by omega) I5 V rfl (I4.ext TL.mono (zL E'' (zL EM (qZ V))))⟩
end
end Go.Proofs.YtmpahfdiebhdbaaDoor
namespace Go.Proofs.YtmpahfdiebhdbaaDoor
open Go Go.HL Go.Proofs Go.Wx Go.Rd
section
variable [Lvl]
set_option maxRecDepth 100000
def inN (out : List (List Int)) (f : Int) (k : Nat) : Nat := (out.take k).countP fun s => decide (f ∈ s)
def valB (n len : Nat) : Int := if n = len then 1 else if n = 0 then 2 else 3
def blameK (out : List (List Int)) (k : Nat) : List Int := (List.range k).map fun f : Nat => valB (inN out f out.length) out.length
theorem inN_succ {out : List (List Int)} {f : Int} {k : Nat} (hk : k < out.length) : inN out f (k + 1) = inN out f k + if f ∈ out[k] then 1 else 0 := by
 unfold inN
 rw [take_snoc hk, List.countP_append, List.countP_cons]
 simp
theorem inN_le (out : List (List Int)) (f : Int) (k : Nat) : inN out f k ≤ out.length := by
 unfold inN
 have := List.countP_le_length (p := fun s : List Int => decide (f ∈ s)) (l := out.take k)
 rw [List.length_take] at this
 omega
theorem blameK_succ (out : List (List Int)) (k : Nat) : blameK out (k + 1) = blameK out k ++ [valB (inN out k out.length) out.length] := by simp [blameK, List.range_succ]
end
end Go.Proofs.YtmpahfdiebhdbaaDoor
namespace Go.Proofs.YtmpahfdiebhdbaaDoor
open Go Go.HL Go.Proofs Go.Wx Go.Rd
section
variable [Lvl]
set_option maxRecDepth 100000
end
end Go.Proofs.YtmpahfdiebhdbaaDoor
namespace Go.Proofs.YtmpahfdiebhdbaaDoor
open Go Go.HL Go.Proofs Go.Wx Go.Rd
section
variable [Lvl]
set_option maxRecDepth 100000
def fewE (m : MachP) (hs : List HeardP) : Int := if checkHeardM m hs ≠ 0 then checkHeardM m hs else if (fewestL m hs).length = 0 then 11 else 0
def fewA (m : MachP) (hs : List HeardP) : List Int := if fewE m hs = 0 then (fewestL m hs).headD [] else []
def blamA (m : MachP) (hs : List HeardP) : List Int := if fewE m hs = 0 then blameK (fewestL m hs) (faultsM m).length else []
theorem faults24 {m : MachP} (M : MOK m) : 2 ≤ (faultsM m).length ∧ (faultsM m).length ≤ 24 := by
 have h1 := M.levers
 have h2 := M.pl
 have h3 := M.ll
 have := faults_len m
 omega
theorem fewJ_le {m : MachP} (M : MOK m) (hs : List HeardP) (j : Nat) : (fewJ m hs j).length ≤ 16777216 := by
 have h1 := chos_len (n := (faultsM m).length) j 0
 have h2 : 2 ^ ((faultsM m).length - 0) ≤ 2 ^ 24 := Nat.pow_le_pow_right (by omega) (by have := (faults24 M).2; omega)
 have h3 : (fewJ m hs j).length ≤ (chosM (faultsM m).length j 0).length := List.length_filter_le _ _
 omega
theorem fewest_le {m : MachP} (M : MOK m) (hs : List HeardP) : (fewestL m hs).length ≤ 16777216 ∧ ∀ s ∈ fewestL m hs, s.length ≤ 2 := by
 rw [fewest_eq hs (faults24 M).1]
 split
 ·exact ⟨fewJ_le M hs 0, fun s h => by rw [few_len s h]; omega⟩
 ·split
  ·exact ⟨fewJ_le M hs 1, fun s h => by rw [few_len s h]; omega⟩
  ·exact ⟨fewJ_le M hs 2, fun s h => by rw [few_len s h]; omega⟩
set_option maxHeartbeats 4000000 in
theorem FewestA_ok (hph : Lvl.ph = true) (m : MachP) (hs : List HeardP) (HN : HLen hs) (AB AQ AL AW UA : Option Addr) (cB cQ cL cW cU : Nat) (cs : List (List Value)) (h : AH) (RM : MachR h AB AQ AL AW m) (h0 : m.weights.length < 2 ^ 40) (R : Row h 3 id UA cs) (EL : Els h TU hs cs) :
  FnT Tryd.prog 40 #[machV AB AQ AL AW cB cQ cL cW m, .slice UA hs.length cU] h (fun v h' => ∃ L, v = .tuple #[L, .int .i64 (fewE m hs)] ∧ SlR h' 1 intC (fewA m hs) L) := by
 refine wL Tryd.func40 rfl Tryd.ntmps40 rfl ?_
 refine qE ?_
 refine qC rfl ?_
 refine op_box (v := .agg #[.int .i64 _, .int .i64 _, .int .i64 _, .int .i64 _, .int .i64 _, .slice _ _ _, .slice _ _ _, .slice _ _ _, .slice _ _ _]) (cs := [_, _, _, _, _, _, _, _, _]) rfl rfl fun b2 hb2 => ?_
 refine qH [_] rfl ?_
 refine qA (qF (v := .slice _ _ _) rfl) ?_
 refine qA (qF (v := .int .i64 _) rfl) ?_
 refine qE ?_
 refine qE ?_
 refine qC rfl ?_
 refine wH 0 (vs := [.int .i64 _, .int .i64 _, .int .i64 _, .int .i64 _, .int .i64 _, .slice _ _ _, .slice _ _ _, .slice _ _ _, .slice _ _ _]) rfl rfl rfl rfl rfl ?_
 refine qA (qD (v := .slice _ _ _) rfl) ?_
 refine qV (caps := []) (vs := [.agg #[.int .i64 _, .int .i64 _, .int .i64 _, .int .i64 _, .int .i64 _, .slice _ _ _, .slice _ _ _, .slice _ _ _, .slice _ _ _], .slice _ _ _]) rfl rfl rfl (checkHeard_ok m hs HN AB AQ AL AW UA cB cQ cL cW cU cs h (RM.ext (Ext.refl _)) h0 (R.ext (Ext.refl _)) (EL.ext TU.mono (Ext.refl _))) ?_
 rintro _ h3 E13 rfl
 refine qA (qF (v := .int .i64 _) rfl) ?_
 refine qE ?_
 refine qC rfl ?_
 refine qA (qD (v := .int .i64 _) rfl) ?_
 refine qA (qJ (v := .bool _) rfl) ?_
 refine wA rfl (fun hc => ?_) (fun hc => ?_)
 ·skip
  have hc' : checkHeardM m hs ≠ 0 := by simpa using hc
  have eE : fewE m hs = checkHeardM m hs := by rw [fewE, if_pos hc']
  refine qE ?_
  refine qC rfl ?_
  refine qA (qD (v := .int .i64 _) rfl) ?_
  refine qA (qF (v := .slice _ _ _) rfl) ?_
  refine qA (qF (v := .int .i64 _) rfl) ?_
  refine wD ?_
  refine qS (vs := [_, _]) Tryd.results40 ⟨qM rfl rfl, qM rfl rfl, trivial⟩ fun V => ?_
  exact ⟨(zL E13 (qZ V)), _, by rw [eE]; rfl, none, 0, by rw [fewA, eE, if_neg hc']; rfl, by rw [fewA, eE, if_neg hc']; exact row_nil _ _⟩
 ·skip
  have hc' : checkHeardM m hs = 0 := by simpa using hc
  obtain ⟨M, hl5, X⟩ := checkHeard_zero hc'
  have f24 := faults24 M
  have fle := fewest_le M hs
  have mlv := M.levers
  have mpl := M.pl
  have mll := M.ll
  have L2 := fewest_ok hph m M f24.2 hs X (by omega) AB AQ AL AW UA cB cQ cL cW cU cs
  have eE : fewE m hs = if (fewestL m hs).length = 0 then 11 else 0 := by rw [fewE, if_neg (by simp [hc'])]
  obtain ⟨F, hF⟩ : ∃ F, F = fewestL m hs := ⟨_, rfl⟩
  rw [← hF] at L2 eE fle
  refine qP ?_
  refine qE ?_
  refine qC rfl ?_
  refine wH 0 (vs := [.int .i64 _, .int .i64 _, .int .i64 _, .int .i64 _, .int .i64 _, .slice _ _ _, .slice _ _ _, .slice _ _ _, .slice _ _ _]) rfl rfl rfl rfl rfl ?_
  refine qA (qD (v := .slice _ _ _) rfl) ?_
  refine qV (caps := []) (vs := [.agg _, .slice _ _ _]) rfl rfl rfl (L2 h3 (RM.ext E13) (R.ext E13) (EL.ext TU.mono E13)) ?_
  rintro _ h4 E4 ⟨_, rfl, S4⟩
  obtain ⟨gs, A4, c4, rfl, R4, EL4⟩ := SlX.els S4
  refine qA (qD (v := .tuple #[.slice _ _ _, .bool _]) rfl) ?_
  refine qA (qJ (v := .slice _ _ _) rfl) ?_
  refine qA (qJ (v := .bool _) rfl) ?_
  refine qA (qF (v := .slice _ _ _) rfl) ?_
  refine qA (qF (v := .bool _) rfl) ?_
  refine qE ?_
  refine qE ?_
  refine qC rfl ?_
  refine qA (qD (v := .bool _) rfl) ?_
  refine qA (qJ (v := .bool _) rfl) ?_
  refine wA rfl (fun hs0 => ?_) (fun hs0 => ?_)
  ·skip
   have h0' : F.length = 0 := by simp at hs0; simp [hs0]
   have eE0 : fewE m hs = 11 := by rw [eE, if_pos h0']
   refine qE ?_
   refine qC rfl ?_
   refine qA (qF (v := .slice _ _ _) rfl) ?_
   refine qA (qF (v := .int .i64 _) rfl) ?_
   refine wD ?_
   refine qS (vs := [_, _]) Tryd.results40 ⟨qM rfl rfl, qM rfl rfl, trivial⟩ fun V => ?_
   exact ⟨(zL (zL E13 E4) (qZ V)), _, by rw [eE0]; rfl, none, 0, by rw [fewA, eE0, if_neg (by decide)]; rfl, by rw [fewA, eE0, if_neg (by decide)]; exact row_nil _ _⟩
  ·skip
   have hne' : 0 < F.length := by
    rcases Nat.eq_zero_or_pos F.length with h | h
    ·rw [h] at hs0; simp at hs0
    ·exact h
   have eE0 : fewE m hs = 0 := by rw [eE, if_neg (by omega)]
   obtain ⟨hic, y0, e0, XA, cX, rfl, RX⟩ := EL4.at hne'
   obtain ⟨g, off, hA, hcc⟩ := R4.at (by omega) hic
   have hcc : Cells h4 g (off + 0 * 1) [.slice XA F[0].length cX] := by rw [← e0]; exact hcc
   have eA : fewA m hs = F[0] := by
    rw [fewA, if_pos eE0, ← hF]
    cases F with
    | nil => exact absurd hne' (by simp)
    | cons x F => rfl
   refine qP ?_
   refine qE ?_
   refine qC rfl ?_
   refine qA (qD (v := .slice _ _ _) rfl) ?_
   refine qA (wU (m := 1) rfl hA rfl rfl rfl (by omega) (by omega)) ?_
   refine wT (v := .slice _ _ _) rfl rfl ((hcc) 0 _ rfl) ?_
   refine qA (qF (v := .slice _ _ _) rfl) ?_
   refine qA (qF (v := .int .i64 _) rfl) ?_
   refine wD ?_
   refine qS (vs := [_, _]) Tryd.results40 ⟨qM rfl rfl, qM rfl rfl, trivial⟩ fun V => ?_
   rw [eE0, eA]
   exact ⟨(zL (zL E13 E4) (qZ V)), _, rfl, XA, cX, rfl, RX.ext (qZ V)⟩
set_option maxHeartbeats 4000000 in
theorem BlameA_ok (hph : Lvl.ph = true) (m : MachP) (hs : List HeardP) (HN : HLen hs) (AB AQ AL AW UA : Option Addr) (cB cQ cL cW cU : Nat) (cs : List (List Value)) (h : AH) (RM : MachR h AB AQ AL AW m) (h0 : m.weights.length < 2 ^ 40) (R : Row h 3 id UA cs) (EL : Els h TU hs cs) :
  FnT Tryd.prog 41 #[machV AB AQ AL AW cB cQ cL cW m, .slice UA hs.length cU] h (fun v h' => ∃ L, v = .tuple #[L, .int .i64 (fewE m hs)] ∧ SlR h' 1 intC (blamA m hs) L) := by
 refine wL Tryd.func41 rfl Tryd.ntmps41 rfl ?_
 refine qE ?_
 refine qC rfl ?_
 refine op_box (v := .agg #[.int .i64 _, .int .i64 _, .int .i64 _, .int .i64 _, .int .i64 _, .slice _ _ _, .slice _ _ _, .slice _ _ _, .slice _ _ _]) (cs := [_, _, _, _, _, _, _, _, _]) rfl rfl fun b2 hb2 => ?_
 refine qH [_] rfl ?_
 refine qA (qF (v := .slice _ _ _) rfl) ?_
 refine qA (qF (v := .int .i64 _) rfl) ?_
 refine qE ?_
 refine qE ?_
 refine qC rfl ?_
 refine wH 0 (vs := [.int .i64 _, .int .i64 _, .int .i64 _, .int .i64 _, .int .i64 _, .slice _ _ _, .slice _ _ _, .slice _ _ _, .slice _ _ _]) rfl rfl rfl rfl rfl ?_
 refine qA (qD (v := .slice _ _ _) rfl) ?_
 refine qV (caps := []) (vs := [.agg #[.int .i64 _, .int .i64 _, .int .i64 _, .int .i64 _, .int .i64 _, .slice _ _ _, .slice _ _ _, .slice _ _ _, .slice _ _ _], .slice _ _ _]) rfl rfl rfl (checkHeard_ok m hs HN AB AQ AL AW UA cB cQ cL cW cU cs h (RM.ext (Ext.refl _)) h0 (R.ext (Ext.refl _)) (EL.ext TU.mono (Ext.refl _))) ?_
 rintro _ h3 E13 rfl
 refine qA (qF (v := .int .i64 _) rfl) ?_
 refine qE ?_
 refine qC rfl ?_
 refine qA (qD (v := .int .i64 _) rfl) ?_
 refine qA (qJ (v := .bool _) rfl) ?_
 refine wA rfl (fun hc => ?_) (fun hc => ?_)
 ·skip
  have hc' : checkHeardM m hs ≠ 0 := by simpa using hc
  have eE : fewE m hs = checkHeardM m hs := by rw [fewE, if_pos hc']
  refine qE ?_
  refine qC rfl ?_
  refine qA (qD (v := .int .i64 _) rfl) ?_
  refine qA (qF (v := .slice _ _ _) rfl) ?_
  refine qA (qF (v := .int .i64 _) rfl) ?_
  refine wD ?_
  refine qS (vs := [_, _]) Tryd.results41 ⟨qM rfl rfl, qM rfl rfl, trivial⟩ fun V => ?_
  exact ⟨(zL E13 (qZ V)), _, by rw [eE]; rfl, none, 0, by rw [blamA, eE, if_neg hc']; rfl, by rw [blamA, eE, if_neg hc']; exact row_nil _ _⟩
 ·skip
  have hc' : checkHeardM m hs = 0 := by simpa using hc
  obtain ⟨M, hl5, X⟩ := checkHeard_zero hc'
  have f24 := faults24 M
  have fle := fewest_le M hs
  have mlv := M.levers
  have mpl := M.pl
  have mll := M.ll
  have L2 := fewest_ok hph m M f24.2 hs X (by omega) AB AQ AL AW UA cB cQ cL cW cU cs
  have eE : fewE m hs = if (fewestL m hs).length = 0 then 11 else 0 := by rw [fewE, if_neg (by simp [hc'])]
  obtain ⟨F, hF⟩ : ∃ F, F = fewestL m hs := ⟨_, rfl⟩
  rw [← hF] at L2 eE fle
  refine qP ?_
  refine qE ?_
  refine qC rfl ?_
  refine wH 0 (vs := [.int .i64 _, .int .i64 _, .int .i64 _, .int .i64 _, .int .i64 _, .slice _ _ _, .slice _ _ _, .slice _ _ _, .slice _ _ _]) rfl rfl rfl rfl rfl ?_
  refine qA (qD (v := .slice _ _ _) rfl) ?_
  refine qV (caps := []) (vs := [.agg _, .slice _ _ _]) rfl rfl rfl (L2 h3 (RM.ext E13) (R.ext E13) (EL.ext TU.mono E13)) ?_
  rintro _ h4 E4 ⟨_, rfl, S4⟩
  obtain ⟨gs, A4, c4, rfl, R4, EL4⟩ := SlX.els S4
  refine qA (qD (v := .tuple #[.slice _ _ _, .bool _]) rfl) ?_
  refine qA (qJ (v := .slice _ _ _) rfl) ?_
  refine qA (qJ (v := .bool _) rfl) ?_
  refine qA (qF (v := .slice _ _ _) rfl) ?_
  refine qA (qF (v := .bool _) rfl) ?_
  refine qE ?_
  refine qE ?_
  refine qC rfl ?_
  refine qA (qD (v := .bool _) rfl) ?_
  refine qA (qJ (v := .bool _) rfl) ?_
  refine wA rfl (fun hs0 => ?_) (fun hs0 => ?_)
  ·skip
   have h0' : F.length = 0 := by simp at hs0; simp [hs0]
   have eE0 : fewE m hs = 11 := by rw [eE, if_pos h0']
   refine qE ?_
   refine qC rfl ?_
   refine qA (qF (v := .slice _ _ _) rfl) ?_
   refine qA (qF (v := .int .i64 _) rfl) ?_
   refine wD ?_
   refine qS (vs := [_, _]) Tryd.results41 ⟨qM rfl rfl, qM rfl rfl, trivial⟩ fun V => ?_
   exact ⟨(zL (zL E13 E4) (qZ V)), _, by rw [eE0]; rfl, none, 0, by rw [blamA, eE0, if_neg (by decide)]; rfl, by rw [blamA, eE0, if_neg (by decide)]; exact row_nil _ _⟩
  ·skip
   have hne' : 0 < F.length := by
    rcases Nat.eq_zero_or_pos F.length with h | h
    ·rw [h] at hs0; simp at hs0
    ·exact h
   have eE0 : fewE m hs = 0 := by rw [eE, if_neg (by omega)]
   have hsz : ∀ s ∈ F, s.length < 2 ^ 40 := fun s h => by have := fle.2 s h; omega
   refine qP ?_
   refine goes_more ?_
   refine wE [_, _] rfl ?_
   refine qE ?_
   refine qC rfl ?_
   refine qA (qF (v := .slice _ _ _) rfl) ?_
   refine qE ?_
   refine qE ?_
   refine qC rfl ?_
   refine wH 0 (vs := [.int .i64 _, .int .i64 _, .int .i64 _, .int .i64 _, .int .i64 _, .slice _ _ _, .slice _ _ _, .slice _ _ _, .slice _ _ _]) rfl rfl rfl rfl rfl ?_
   refine qV (caps := []) (vs := [.agg #[.int .i64 _, .int .i64 _, .int .i64 _, .int .i64 _, .int .i64 _, .slice _ _ _, .slice _ _ _, .slice _ _ _, .slice _ _ _]]) rfl rfl rfl (faults_ok m (by omega) (by omega) (by omega) AB AQ AL AW cB cQ cL cW h4) ?_
   rintro _ h5 E5 ⟨FA, cF, rfl, RF⟩
   refine qA (wP rfl rfl) ?_
   refine qA (qD (v := .int .i64 _) rfl) ?_
   refine qT ?_
   refine xp_loopL [9, 10, 11, 13, 31, 32, 33, 34, 35, 36, 37, 38, 39, 40, 41, 42, 43, 44, 45, 46, 47, 48, 49, 50, 51, 52, 53, 54, 55, 56, 57, 58, 59, 60, 61, 62] 2 (α := Nat × Acc) (fun ⟨k, a⟩ => [(31, .int .i64 k), (9, .slice a.A a.n a.c)]) (fun ⟨k, a⟩ L => L.set 1 (a.p)) (fun ⟨k, a⟩ h_k => k ≤ (faultsM m).length ∧ AccR 3 1 ((blameK F k).flatMap intC) a) (fun ⟨k, a⟩ => (faultsM m).length - k) ((0, acc0)) ⟨rfl, rfl, trivial⟩ (rfl) (⟨Nat.zero_le _, accR0⟩) ?_
   rintro ⟨k, a⟩ T1 h_k E_k J_k
   refine wE [_, _] rfl ?_
   obtain ⟨K1, K2⟩ := J_k
   refine qE ?_
   refine qC rfl ?_
   refine qA (qJ (v := .bool _) rfl) ?_
   refine qE ?_
   refine wA rfl (fun hk => ?_) (fun hk => ?_)
   ·skip
    have hkl : k < (faultsM m).length := ltI hk
    have hbl : (blameK F k).length = k := by simp [blameK]
    have hile := inN_le F (k : Int) F.length
    refine qP ?_
    refine qE ?_
    refine qT ?_
    refine qE ?_
    refine qC rfl ?_
    refine qA (qD (v := .int .i64 _) rfl) ?_
    refine qA (qF (v := .int .i64 _) rfl) ?_
    refine qE ?_
    refine qC rfl ?_
    refine qA (qF (v := .int .i64 _) rfl) ?_
    refine qE ?_
    refine qE ?_
    refine qC rfl ?_
    refine qA (qD (v := .slice _ _ _) rfl) ?_
    refine qA (wP rfl rfl) ?_
    refine qA (qD (v := .int .i64 _) rfl) ?_
    refine qT ?_
    refine xp_loopB [11, 13, 36, 37, 38, 39, 40, 41, 42, 43, 44, 45] 2 (α := Nat) (fun q => [(36, .int .i64 q), (11, .int .i64 (inN F (k : Int) q : Nat))]) (fun q => _) (fun q h_q => q ≤ F.length) (fun q => F.length - q) (0) ⟨rfl, rfl, trivial⟩ (rfl) (Nat.zero_le _) ?_
    rintro q T2 h_q E_q J_q
    refine wE [_, _] rfl ?_
    refine qE ?_
    refine qC rfl ?_
    refine qA (qJ (v := .bool _) rfl) ?_
    refine qE ?_
    refine wA rfl (fun hq => ?_) (fun hq => ?_)
    ·skip
     have hql : q < F.length := ltI hq
     have hst := inN_succ (f := (k : Int)) hql
     have hle := inN_le F (k : Int) q
     obtain ⟨hic, y0, e0, XA, cX, rfl, RX⟩ := (EL4.ext TL.mono (zL (zL E5 E_k) E_q)).at hql
     obtain ⟨g, off, hA, hc⟩ := (R4.ext (zL (zL E5 E_k) E_q)).at (by omega) hic
     have hc : Cells h_q g (off + q * 1) [.slice XA F[q].length cX] := by rw [← e0]; exact hc
     refine qP ?_
     refine qE ?_
     refine qT ?_
     refine qE ?_
     refine qC rfl ?_
     refine qA (wU (m := 1) rfl hA rfl rfl rfl (by omega) (by omega)) ?_
     refine wT (v := .slice _ _ _) rfl rfl ((hc) 0 _ rfl) ?_
     refine qA (qF (v := .slice _ _ _) rfl) ?_
     refine qE ?_
     refine qC rfl ?_
     refine qA (qD (v := .slice _ _ _) rfl) ?_
     refine qA (qD (v := .int .i64 _) rfl) ?_
     refine qV (caps := []) (vs := [.slice _ _ _, .int .i64 _]) rfl rfl rfl (contains_ok F[q] k XA cX h_q RX (hsz _ (List.getElem_mem hql))) ?_
     rintro _ h6 E6 rfl
     refine wA rfl (fun hi => ?_) (fun hi => ?_)
     ·skip
      rw [if_pos (of_decide_eq_true hi)] at hst
      refine qC rfl ?_
      refine qA (qD (v := .int .i64 _) rfl) ?_
      refine qA (qX rfl (by omega)) ?_
      refine qA (qF (v := .int .i64 _) rfl) ?_
      refine qC rfl ?_
      refine qA (qX rfl (by omega)) ?_
      refine qA (qD (v := .int .i64 _) rfl) ?_
      refine ⟨q + 1, ⟨rfl, intE (by rw [hst]; omega), trivial⟩, rfl, rfl, (zL E_q E6), fun h3 E3 => hql, by first | omega | (dsimp only; omega), ?_⟩
      repeat (first | exact wK _ _ _ | refine wM (by decide) ?_ | refine wJ rfl ?_ | refine wN rfl ?_)
     ·skip
      rw [if_neg (of_decide_eq_false hi)] at hst
      refine qP ?_
      refine qC rfl ?_
      refine qA (qX rfl (by omega)) ?_
      refine qA (qD (v := .int .i64 _) rfl) ?_
      refine ⟨q + 1, ⟨rfl, intE (by rw [hst]; omega), trivial⟩, rfl, rfl, (zL E_q E6), fun h3 E3 => hql, by first | omega | (dsimp only; omega), ?_⟩
      repeat (first | exact wK _ _ _ | refine wM (by decide) ?_ | refine wJ rfl ?_ | refine wN rfl ?_)
    ·skip
     have hqe : q = F.length := by have := geI hq; omega
     subst hqe
     have hbs := blameK_succ F k
     refine zA ?_
     refine qE ?_
     refine qC rfl ?_
     refine qA (qD (v := .int .i64 _) rfl) ?_
     refine qT ?_
     refine qE ?_
     refine qC rfl ?_
     refine qA (qD (v := .slice _ _ _) rfl) ?_
     refine qA (wP rfl rfl) ?_
     refine qA (qJ (v := .bool _) rfl) ?_
     refine qA (qF (v := .bool _) rfl) ?_
     refine wA rfl (fun h1 => ?_) (fun h1 => ?_)
     ·skip
      have h1' : inN F (k : Int) F.length = F.length := by simp at h1; omega
      rw [valB, if_pos h1'] at hbs
      refine qC rfl ?_
      refine qA (qD (v := .slice _ _ _) rfl) ?_
      refine qK (zc := [_]) (vs := [(0, .int .i64 _)]) (cs := [_]) rfl rfl rfl rfl rfl rfl rfl fun b55 hb55 => ?_
      refine qH [_, _, _] rfl ?_
      refine zF 1 K2 rfl rfl rfl (fun V => rdP V (i := 2) rfl) rfl rfl rfl rfl rfl rfl rfl rfl rfl (by omega) rfl (by rw [zE (m := 1) (fun _ _ => rfl), hbl]; simp; omega) fun a2 h3a E3a ha2 => ?_
      refine qH [_, _, _] rfl ?_
      refine qA (qF (v := .slice _ _ _) rfl) ?_
      refine qC rfl ?_
      refine qA (qX rfl (by omega)) ?_
      refine qA (qD (v := .int .i64 _) rfl) ?_
      refine ⟨(k + 1, a2), ⟨rfl, rfl, trivial⟩, rfl, rfl, (zL (zL E_k E_q) E3a), fun h3 E3 => ⟨hkl, by rw [hbs, List.flatMap_append]; exact ha2⟩, by first | omega | (dsimp only; omega), ?_⟩
      repeat (first | exact wK _ _ _ | refine wM (by decide) ?_ | refine wJ rfl ?_ | refine wN rfl ?_)
     ·skip
      have h1' : ¬ inN F (k : Int) F.length = F.length := by simp at h1; omega
      rw [valB, if_neg h1'] at hbs
      refine qE ?_
      refine qC rfl ?_
      refine qA (qJ (v := .bool _) rfl) ?_
      refine qA (qF (v := .bool _) rfl) ?_
      refine wA rfl (fun h2 => ?_) (fun h2 => ?_)
      ·skip
       have h2' : inN F (k : Int) F.length = 0 := by simp at h2; omega
       rw [if_pos h2'] at hbs
       refine qC rfl ?_
       refine qA (qD (v := .slice _ _ _) rfl) ?_
       refine qK (zc := [_]) (vs := [(0, .int .i64 _)]) (cs := [_]) rfl rfl rfl rfl rfl rfl rfl fun b60 hb60 => ?_
       refine qH [_, _, _] rfl ?_
       refine zF 1 K2 rfl rfl rfl (fun V => rdP V (i := 2) rfl) rfl rfl rfl rfl rfl rfl rfl rfl rfl (by omega) rfl (by rw [zE (m := 1) (fun _ _ => rfl), hbl]; simp; omega) fun a2 h4a E4a ha2 => ?_
       refine qH [_, _, _] rfl ?_
       refine qA (qF (v := .slice _ _ _) rfl) ?_
       refine qC rfl ?_
       refine qA (qX rfl (by omega)) ?_
       refine qA (qD (v := .int .i64 _) rfl) ?_
       refine ⟨(k + 1, a2), ⟨rfl, rfl, trivial⟩, rfl, rfl, (zL (zL E_k E_q) E4a), fun h3 E3 => ⟨hkl, by rw [hbs, List.flatMap_append]; exact ha2⟩, by first | omega | (dsimp only; omega), ?_⟩
       repeat (first | exact wK _ _ _ | refine wM (by decide) ?_ | refine wJ rfl ?_ | refine wN rfl ?_)
      ·skip
       have h2' : ¬ inN F (k : Int) F.length = 0 := by simp at h2; omega
       rw [if_neg h2'] at hbs
       refine qC rfl ?_
       refine qA (qD (v := .slice _ _ _) rfl) ?_
       refine qK (zc := [_]) (vs := [(0, .int .i64 _)]) (cs := [_]) rfl rfl rfl rfl rfl rfl rfl fun b48 hb48 => ?_
       refine qH [_, _, _] rfl ?_
       refine zF 1 K2 rfl rfl rfl (fun V => rdP V (i := 2) rfl) rfl rfl rfl rfl rfl rfl rfl rfl rfl (by omega) rfl (by rw [zE (m := 1) (fun _ _ => rfl), hbl]; simp; omega) fun a2 h5a E5a ha2 => ?_
       refine qH [_, _, _] rfl ?_
       refine qA (qF (v := .slice _ _ _) rfl) ?_
       refine qC rfl ?_
       refine qA (qX rfl (by omega)) ?_
       refine qA (qD (v := .int .i64 _) rfl) ?_
       refine ⟨(k + 1, a2), ⟨rfl, rfl, trivial⟩, rfl, rfl, (zL (zL E_k E_q) E5a), fun h3 E3 => ⟨hkl, by rw [hbs, List.flatMap_append]; exact ha2⟩, by first | omega | (dsimp only; omega), ?_⟩
       repeat (first | exact wK _ _ _ | refine wM (by decide) ?_ | refine wJ rfl ?_ | refine wN rfl ?_)
   ·skip
    have hke : k = (faultsM m).length := by have := geI hk; omega
    subst hke
    refine zA ?_
    refine qE ?_
    refine qC rfl ?_
    refine qA (qD (v := .slice _ _ _) rfl) ?_
    refine qA (qF (v := .slice _ _ _) rfl) ?_
    refine qA (qF (v := .int .i64 _) rfl) ?_
    refine wD ?_
    refine qS (vs := [_, _]) Tryd.results41 ⟨qM rfl rfl, qM rfl rfl, trivial⟩ fun V => ?_
    rw [eE0, blamA, eE0, if_pos rfl, ← hF]
    exact ⟨(zL (zL (zL (zL E13 E4) E5) E_k) (qZ V)), _, rfl, AccP.row (i := 1) K2 (by omega) (fun _ _ => rfl) V rfl⟩
end
end Go.Proofs.YtmpahfdiebhdbaaDoor
namespace Go.Proofs.YtmpahfdiebhdbaaDoor
open Go Go.HL Go.Proofs Go.Wx Go.Rd
section
variable [Lvl]
set_option maxRecDepth 100000
theorem machine_okM (h : AH) : FnM Tryd.prog (.func (.func 4) #[] ([] : List Value).toArray) [] h [] (fun v h' M' => ∃ p q l w, v = machV (some ⟨p, 0, none⟩) (some ⟨q, 0, none⟩) (some ⟨l, 0, none⟩) (some ⟨w, 0, none⟩) 2 4 2 4 mach0 ∧
  M' = [some (p, .cells (mach0.buttons.flatMap intC).toArray 3 (0, 0)), some (q, .cells (mach0.pins.flatMap pinC).toArray 54 (0, 0)), some (l, .cells (mach0.links.flatMap linkC).toArray 29 (0, 0)), some (w, .cells (mach0.weights.flatMap intC).toArray 3 (0, 0))]) := by
 refine fnM_body rfl rfl Tryd.func4 rfl Tryd.ntmps4 rfl ?_
 refine qE ?_
 refine qC rfl ?_
 refine wW (cs := [_, _, _, _, _, _, _, _, _]) rfl rfl fun b0 hb0 => ?_
 refine qH [_] rfl ?_
 refine qE ?_
 refine qC rfl ?_
 refine qK (zc := [_]) (vs := [(0, .int .i64 _), (1, .int .i64 _)]) (cs := [_, _]) rfl rfl rfl rfl rfl rfl rfl fun b1 hb1 => ?_
 refine qH [_, _] rfl ?_
 refine qA (wX (zc := [_, _, _]) (vs := [(2, .int .i64 _)]) (cs := [_, _, _]) rfl rfl rfl rfl rfl rfl) ?_
 refine qA (wX (zc := [_, _, _]) (vs := [(1, .int .i64 _), (2, .int .i64 _)]) (cs := [_, _, _]) rfl rfl rfl rfl rfl rfl) ?_
 refine qA (wX (zc := [_, _, _]) (vs := [(0, .int .i64 _), (1, .int .i64 _), (2, .int .i64 _)]) (cs := [_, _, _]) rfl rfl rfl rfl rfl rfl) ?_
 refine qA (wX (zc := [_, _, _]) (vs := [(0, .int .i64 _), (1, .int .i64 _), (2, .int .i64 _)]) (cs := [_, _, _]) rfl rfl rfl rfl rfl rfl) ?_
 refine qK (zc := [_, _, _]) (vs := [(0, .agg #[.int .i64 _, .int .i64 _, .int .i64 _]), (1, .agg #[.int .i64 _, .int .i64 _, .int .i64 _]), (2, .agg #[.int .i64 _, .int .i64 _, .int .i64 _]), (3, .agg #[.int .i64 _, .int .i64 _, .int .i64 _])]) (cs := [_, _, _, _, _, _, _, _, _, _, _, _]) rfl rfl rfl rfl rfl rfl rfl fun b6 hb6 => ?_
 refine qH [_, _, _] rfl ?_
 refine qA (wX (zc := [_, _, _, _]) (vs := [(1, .int .i64 _), (3, .int .i64 _)]) (cs := [_, _, _, _]) rfl rfl rfl rfl rfl rfl) ?_
 refine qA (wX (zc := [_, _, _, _]) (vs := [(0, .int .i64 _), (1, .int .i64 _), (2, .int .i64 _), (3, .int .i64 _)]) (cs := [_, _, _, _]) rfl rfl rfl rfl rfl rfl) ?_
 refine qK (zc := [_, _, _, _]) (vs := [(0, .agg #[.int .i64 _, .int .i64 _, .int .i64 _, .int .i64 _]), (1, .agg #[.int .i64 _, .int .i64 _, .int .i64 _, .int .i64 _])]) (cs := [_, _, _, _, _, _, _, _]) rfl rfl rfl rfl rfl rfl rfl fun b9 hb9 => ?_
 refine qH [_, _, _, _] rfl ?_
 refine qK (zc := [_]) (vs := [(0, .int .i64 _), (1, .int .i64 _), (2, .int .i64 _), (3, .int .i64 _)]) (cs := [_, _, _, _]) rfl rfl rfl rfl rfl rfl rfl fun b10 hb10 => ?_
 refine qH [_, _, _, _, _] rfl ?_
 refine qA (wX (zc := [_, _, _, _, _, _, _, _, _]) (vs := [(0, .int .i64 _), (1, .int .i64 _), (2, .int .i64 _), (3, .int .i64 _), (4, .int .i64 _), (5, .slice _ _ _), (6, .slice _ _ _), (7, .slice _ _ _), (8, .slice _ _ _)]) (cs := [_, _, _, _, _, _, _, _, _]) rfl rfl rfl rfl rfl rfl) ?_
 refine wG 0 (v := .agg #[.int .i64 _, .int .i64 _, .int .i64 _, .int .i64 _, .int .i64 _, .slice _ _ _, .slice _ _ _, .slice _ _ _, .slice _ _ _]) (vs := [_, _, _, _, _, _, _, _, _]) (c' := [_, _, _, _, _, _, _, _, _]) rfl rfl rfl rfl rfl rfl rfl rfl rfl ?_
 refine qH [_, _, _, _, _] rfl ?_
 refine wD ?_
 refine qS (vs := [_]) Tryd.results4 ⟨resV_agg 0 rfl rfl rfl rfl rfl (vs := [.int .i64 _, .int .i64 _, .int .i64 _, .int .i64 _, .int .i64 _, .slice _ _ _, .slice _ _ _, .slice _ _ _, .slice _ _ _]) rfl, trivial⟩ fun V => ?_
 obtain ⟨h', E, e, V'⟩ := wl_shed [_] [_, _, _, _] V
 exact ⟨h', _, e, V', ((Ext.refl _)).trans E, b1, b6, b9, b10, rfl, rfl⟩
theorem machine_okC (h : AH) : FnT Tryd.prog 4 #[] h (fun v h' => ∃ p q l w : Nat, v = machV (some ⟨p, 0, none⟩) (some ⟨q, 0, none⟩) (some ⟨l, 0, none⟩) (some ⟨w, 0, none⟩) 2 4 2 4 mach0 ∧ MachR h' (some ⟨p, 0, none⟩) (some ⟨q, 0, none⟩) (some ⟨l, 0, none⟩) (some ⟨w, 0, none⟩) mach0) := by
 refine wL Tryd.func4 rfl Tryd.ntmps4 rfl ?_
 refine qE ?_
 refine qC rfl ?_
 refine wW (cs := [_, _, _, _, _, _, _, _, _]) rfl rfl fun b0 hb0 => ?_
 refine qH [_] rfl ?_
 refine qE ?_
 refine qC rfl ?_
 refine qK (zc := [_]) (vs := [(0, .int .i64 _), (1, .int .i64 _)]) (cs := [_, _]) rfl rfl rfl rfl rfl rfl rfl fun b1 hb1 => ?_
 refine qH [_, _] rfl ?_
 refine qA (wX (zc := [_, _, _]) (vs := [(2, .int .i64 _)]) (cs := [_, _, _]) rfl rfl rfl rfl rfl rfl) ?_
 refine qA (wX (zc := [_, _, _]) (vs := [(1, .int .i64 _), (2, .int .i64 _)]) (cs := [_, _, _]) rfl rfl rfl rfl rfl rfl) ?_
 refine qA (wX (zc := [_, _, _]) (vs := [(0, .int .i64 _), (1, .int .i64 _), (2, .int .i64 _)]) (cs := [_, _, _]) rfl rfl rfl rfl rfl rfl) ?_
 refine qA (wX (zc := [_, _, _]) (vs := [(0, .int .i64 _), (1, .int .i64 _), (2, .int .i64 _)]) (cs := [_, _, _]) rfl rfl rfl rfl rfl rfl) ?_
 refine qK (zc := [_, _, _]) (vs := [(0, .agg #[.int .i64 _, .int .i64 _, .int .i64 _]), (1, .agg #[.int .i64 _, .int .i64 _, .int .i64 _]), (2, .agg #[.int .i64 _, .int .i64 _, .int .i64 _]), (3, .agg #[.int .i64 _, .int .i64 _, .int .i64 _])]) (cs := [_, _, _, _, _, _, _, _, _, _, _, _]) rfl rfl rfl rfl rfl rfl rfl fun b6 hb6 => ?_
 refine qH [_, _, _] rfl ?_
 refine qA (wX (zc := [_, _, _, _]) (vs := [(1, .int .i64 _), (3, .int .i64 _)]) (cs := [_, _, _, _]) rfl rfl rfl rfl rfl rfl) ?_
 refine qA (wX (zc := [_, _, _, _]) (vs := [(0, .int .i64 _), (1, .int .i64 _), (2, .int .i64 _), (3, .int .i64 _)]) (cs := [_, _, _, _]) rfl rfl rfl rfl rfl rfl) ?_
 refine qK (zc := [_, _, _, _]) (vs := [(0, .agg #[.int .i64 _, .int .i64 _, .int .i64 _, .int .i64 _]), (1, .agg #[.int .i64 _, .int .i64 _, .int .i64 _, .int .i64 _])]) (cs := [_, _, _, _, _, _, _, _]) rfl rfl rfl rfl rfl rfl rfl fun b9 hb9 => ?_
 refine qH [_, _, _, _] rfl ?_
 refine qK (zc := [_]) (vs := [(0, .int .i64 _), (1, .int .i64 _), (2, .int .i64 _), (3, .int .i64 _)]) (cs := [_, _, _, _]) rfl rfl rfl rfl rfl rfl rfl fun b10 hb10 => ?_
 refine qH [_, _, _, _, _] rfl ?_
 refine qA (wX (zc := [_, _, _, _, _, _, _, _, _]) (vs := [(0, .int .i64 _), (1, .int .i64 _), (2, .int .i64 _), (3, .int .i64 _), (4, .int .i64 _), (5, .slice _ _ _), (6, .slice _ _ _), (7, .slice _ _ _), (8, .slice _ _ _)]) (cs := [_, _, _, _, _, _, _, _, _]) rfl rfl rfl rfl rfl rfl) ?_
 refine wG 0 (v := .agg #[.int .i64 _, .int .i64 _, .int .i64 _, .int .i64 _, .int .i64 _, .slice _ _ _, .slice _ _ _, .slice _ _ _, .slice _ _ _]) (vs := [_, _, _, _, _, _, _, _, _]) (c' := [_, _, _, _, _, _, _, _, _]) rfl rfl rfl rfl rfl rfl rfl rfl rfl ?_
 refine qH [_, _, _, _, _] rfl ?_
 refine wD ?_
 refine qS (vs := [_]) Tryd.results4 ⟨resV_agg 0 rfl rfl rfl rfl rfl (vs := [.int .i64 _, .int .i64 _, .int .i64 _, .int .i64 _, .int .i64 _, .slice _ _ _, .slice _ _ _, .slice _ _ _, .slice _ _ _]) rfl, trivial⟩ fun V => ?_
 exact ⟨(qZ V), b1, b6, b9, b10, rfl, wS (enc := intC) (m := 1) (l := mach0.buttons) (fun _ _ => rfl) (zC V (i := 1) rfl), wS (enc := pinC) (m := 3) (l := mach0.pins) (fun _ _ => rfl) (zC V (i := 2) rfl), wS (enc := linkC) (m := 4) (l := mach0.links) (fun _ _ => rfl) (zC V (i := 3) rfl), wS (enc := intC) (m := 1) (l := mach0.weights) (fun _ _ => rfl) (zC V (i := 4) rfl)⟩
def machOpen : MachP := { mach0 with opn := 7 }
def machBtn : MachP := { mach0 with buttons := [0, 3] }
def machLnk : MachP := { mach0 with links := [⟨2, 2, 0, 2⟩, ⟨1, 2, -1, 4⟩] }
def machWgt : MachP := { mach0 with weights := [1, 2, 3] }
def machBare : MachP := { mach0 with pins := [⟨0, 1, 4⟩], links := [⟨1, 2, -1, 4⟩] }
theorem chk_c (m : MachP) (e : Int) (he : chkM m = e) (h0 : m.weights.length < 2 ^ 40) (AB AQ AL AW : Option Addr) (cB cQ cL cW : Nat) (h : AH) (RM : MachR h AB AQ AL AW m) : FnT Tryd.prog 6 #[machV AB AQ AL AW cB cQ cL cW m] h (fun v _ => v = .int .i64 e) :=
 (Check_ok m AB AQ AL AW cB cQ cL cW h RM h0).mono (fun _ _ r => ⟨r.1, by rw [r.2, he]⟩) fun _ _ y => y
theorem turns_c (hph : Lvl.ph = true) (a : HandP) (l : List Int) (h1 : a.buttons.length < 2 ^ 40) (h2 : a.on.length < 2 ^ 40) (hc : checkHandM mach0 a = 0) (hl : turnsL mach0 a = l) (AB AQ AL AW HA OA : Option Addr) (cB cQ cL cW cH cO : Nat) (h : AH) (RM : MachR h AB AQ AL AW mach0) (RH : HandR h HA OA a) :
  FnT Tryd.prog 8 #[machV AB AQ AL AW cB cQ cL cW mach0, handV HA OA cH cO a] h (fun v h' => ∃ A c, v = .tuple #[.slice A l.length c, .int .i64 0] ∧ Row h' 1 intC A l) :=
 (Turns_ok hph mach0 a AB AQ AL AW HA OA cB cQ cL cW cH cO h RM RH (by decide) h1 h2).mono (fun _ _ r => by obtain ⟨E0, L, rfl, A, c, rfl, R⟩ := r; rw [hl] at R ⊢; rw [hc]; exact ⟨E0, A, c, rfl, R⟩) fun _ _ y => y
theorem depth_c (hph : Lvl.ph = true) (on : List Int) (b v x e : Int) (h2 : on.length < 2 ^ 40) (hd : depthR mach0 on b v = (x, e)) (AB AQ AL AW OA : Option Addr) (cB cQ cL cW cO : Nat) (h : AH) (RM : MachR h AB AQ AL AW mach0) (RO : Row h 1 intC OA on) :
  FnT Tryd.prog 10 #[machV AB AQ AL AW cB cQ cL cW mach0, .slice OA on.length cO, .int .i64 b, .int .i64 v] h (fun w _ => w = .tuple #[.int .i64 x, .int .i64 e]) :=
 (Depth_ok hph mach0 on b v AB AQ AL AW OA cB cQ cL cW cO h RM RO (by decide) h2).mono (fun _ _ r => ⟨r.1, by rw [r.2, hd]⟩) fun _ _ y => y
theorem sounds_c (hph : Lvl.ph = true) (a : HandP) (l : List Int) (h1 : a.buttons.length < 2 ^ 40) (h2 : a.on.length < 2 ^ 40) (hc : checkHandM mach0 a = 0) (hl : soundsL mach0 a = l) (AB AQ AL AW HA OA : Option Addr) (cB cQ cL cW cH cO : Nat) (h : AH) (RM : MachR h AB AQ AL AW mach0) (RH : HandR h HA OA a) :
  FnT Tryd.prog 11 #[machV AB AQ AL AW cB cQ cL cW mach0, handV HA OA cH cO a] h (fun v h' => ∃ A c, v = .tuple #[.slice A l.length c, .int .i64 0] ∧ Row h' 1 intC A l) :=
 (Sounds_ok hph mach0 a AB AQ AL AW HA OA cB cQ cL cW cH cO h RM RH (by decide) h1 h2).mono (fun _ _ r => by obtain ⟨E0, L, rfl, A, c, rfl, R⟩ := r; rw [hl] at R ⊢; rw [hc]; exact ⟨E0, A, c, rfl, R⟩) fun _ _ y => y
theorem chart_c (hph : Lvl.ph = true) (l : List (List Int)) (hc : checkHandM mach0 ⟨[], []⟩ = 0) (hl : chartL mach0 [] = l) (AB AQ AL AW : Option Addr) (cB cQ cL cW : Nat) (h : AH) (RM : MachR h AB AQ AL AW mach0) :
  FnT Tryd.prog 12 #[machV AB AQ AL AW cB cQ cL cW mach0, .slice none 0 0] h (fun v h' => ∃ A c cs, v = .tuple #[.slice A l.length c, .int .i64 0] ∧ Row h' 1 id A cs ∧ Els h' TL l cs) :=
 (Chart_ok hph mach0 [] AB AQ AL AW none cB cQ cL cW 0 h RM (row_nil _ _) (by decide) (by decide)).mono (fun _ _ r => by obtain ⟨E0, L, rfl, cs, A, c, rfl, hn, R, hT⟩ := r; rw [hl] at hn hT ⊢; rw [hc]; exact ⟨E0, A, c, cs, rfl, R, hn, hT⟩) fun _ _ y => y
theorem chord_c (hph : Lvl.ph = true) (vs l : List Int) (e : Int) (h2 : vs.length < 2 ^ 40) (hc : chordE mach0 [] vs = e) (hl : chordL mach0 [] vs = l) (AB AQ AL AW VA : Option Addr) (cB cQ cL cW cV : Nat) (h : AH) (RM : MachR h AB AQ AL AW mach0) (RV : Row h 1 intC VA vs) :
  FnT Tryd.prog 14 #[machV AB AQ AL AW cB cQ cL cW mach0, .slice none 0 0, .slice VA vs.length cV] h (fun v h' => ∃ A c, v = .tuple #[.slice A l.length c, .int .i64 e] ∧ Row h' 1 intC A l) :=
 (Chord_ok hph mach0 [] vs AB AQ AL AW none VA cB cQ cL cW 0 cV h RM (row_nil _ _) RV (by decide) (by decide) h2).mono (fun _ _ r => by obtain ⟨E0, L, rfl, A, c, rfl, R⟩ := r; rw [hl] at R ⊢; rw [hc]; exact ⟨E0, A, c, rfl, R⟩) fun _ _ y => y
theorem play_c (hph : Lvl.ph = true) (es : List EvP) (l : List (List Int)) (e : Int) (h2 : es.length < 2 ^ 40) (hp : playM mach0 es = (e, l)) (AB AQ AL AW EA : Option Addr) (cB cQ cL cW cE : Nat) (h : AH) (RM : MachR h AB AQ AL AW mach0) (RE : Row h 2 evC EA es) :
  FnT Tryd.prog 15 #[machV AB AQ AL AW cB cQ cL cW mach0, .slice EA es.length cE] h (fun v h' => ∃ A c cs, v = .tuple #[.slice A l.length c, .int .i64 e] ∧ Row h' 1 id A cs ∧ Els h' TL l cs) :=
 (Play_ok hph mach0 es AB AQ AL AW EA cB cQ cL cW cE h RM RE (by decide) h2).mono (fun _ _ r => by obtain ⟨E0, L, rfl, cs, A, c, rfl, hn, R, hT⟩ := r; rw [hp] at hn hT ⊢; exact ⟨E0, A, c, cs, rfl, R, hn, hT⟩) fun _ _ y => y
theorem mr_btn {h : AH} {p q l w : Nat} (h1 : h p = some (.cells #[.int .i64 0, .int .i64 3] 3 (0, 0))) (h2 : h q = some (.cells (mach0.pins.flatMap pinC).toArray 54 (0, 0))) (h3 : h l = some (.cells (mach0.links.flatMap linkC).toArray 29 (0, 0))) (h4 : h w = some (.cells (mach0.weights.flatMap intC).toArray 3 (0, 0))) :
  MachR h (some ⟨p, 0, none⟩) (some ⟨q, 0, none⟩) (some ⟨l, 0, none⟩) (some ⟨w, 0, none⟩) machBtn :=
 ⟨wS (enc := intC) (m := 1) (l := machBtn.buttons) (fun _ _ => rfl) h1, wS (enc := pinC) (m := 3) (l := mach0.pins) (fun _ _ => rfl) h2, wS (enc := linkC) (m := 4) (l := mach0.links) (fun _ _ => rfl) h3, wS (enc := intC) (m := 1) (l := mach0.weights) (fun _ _ => rfl) h4⟩
theorem mr_lnk {h : AH} {p q l w : Nat} (h1 : h p = some (.cells (mach0.buttons.flatMap intC).toArray 3 (0, 0))) (h2 : h q = some (.cells (mach0.pins.flatMap pinC).toArray 54 (0, 0))) (h3 : h l = some (.cells (machLnk.links.flatMap linkC).toArray 29 (0, 0))) (h4 : h w = some (.cells (mach0.weights.flatMap intC).toArray 3 (0, 0))) :
  MachR h (some ⟨p, 0, none⟩) (some ⟨q, 0, none⟩) (some ⟨l, 0, none⟩) (some ⟨w, 0, none⟩) machLnk :=
 ⟨wS (enc := intC) (m := 1) (l := mach0.buttons) (fun _ _ => rfl) h1, wS (enc := pinC) (m := 3) (l := mach0.pins) (fun _ _ => rfl) h2, wS (enc := linkC) (m := 4) (l := machLnk.links) (fun _ _ => rfl) h3, wS (enc := intC) (m := 1) (l := mach0.weights) (fun _ _ => rfl) h4⟩
theorem mr_bare {h : AH} {p q l w : Nat} (R : MachR h (some ⟨p, 0, none⟩) (some ⟨q, 0, none⟩) (some ⟨l, 0, none⟩) (some ⟨w, 0, none⟩) mach0) : MachR h (some ⟨p, 0, none⟩) (some ⟨q, 3, none⟩) (some ⟨l, 4, none⟩) (some ⟨w, 0, none⟩) machBare := by
 have h1 := row_take (row_drop R.q (k := 1) (cap := 4) (by decide) (by decide)) 1
 have h2 := row_drop R.l (k := 1) (cap := 2) (by decide) (by decide)
 rw [if_neg (by decide), Option.map_some, add_none] at h1 h2
 exact ⟨R.b, h1, h2, R.w⟩
theorem mr_wgt {h : AH} {AB AQ AL AW : Option Addr} (R : MachR h AB AQ AL AW mach0) : MachR h AB AQ AL AW machWgt := ⟨R.b, R.q, R.l, row_take R.w 3⟩
theorem mr_open {h : AH} {AB AQ AL AW : Option Addr} (R : MachR h AB AQ AL AW mach0) : MachR h AB AQ AL AW machOpen := ⟨R.b, R.q, R.l, R.w⟩
theorem sameI_c (l : List Int) (ha : l.length < 2 ^ 40) (A B : Option Addr) (ca cb : Nat) (h : AH) (Ra : Row h 1 intC A l) (Rb : Row h 1 intC B l) : FnT Tryd.prog 9 #[.slice A l.length ca, .slice B l.length cb] h (fun v _ => v = .bool true) :=
 (sameInts_ok l l A B ca cb h Ra Rb ha).mono (fun _ _ r => ⟨r.1, r.2.trans (congrArg Value.bool (decide_eq_true rfl))⟩) fun _ _ y => y
theorem sameL_c (l : List (List Int)) (ha : l.length < 2 ^ 40) (hx : ∀ x ∈ l, x.length < 2 ^ 40) (A B : Option Addr) (ca cb : Nat) (cs ds : List (List Value)) (h : AH) (Ra : Row h 1 id A cs) (Ea : Els h TL l cs) (Rb : Row h 1 id B ds) (Eb : Els h TL l ds) : FnT Tryd.prog 13 #[.slice A l.length ca, .slice B l.length cb] h (fun v _ => v = .bool true) :=
 (sameLists_ok l l A B ca cb cs ds h Ra Ea Rb Eb ha hx).mono (fun _ _ r => ⟨r.1, r.2.trans (congrArg Value.bool (decide_eq_true rfl))⟩) fun _ _ y => y
theorem rowI (l : List Int) {h : AH} {b : Nat} (hb : h b = some (.cells (l.flatMap intC).toArray 3 (0, 0))) : Row h 1 intC (some ⟨b, 0, none⟩) l := wS (enc := intC) (m := 1) (l := l) (fun _ _ => rfl) hb
theorem rowX2 {h : AH} {b : Nat} {t : TypeId} {v1 v2 : Value} (hb : h b = some (.cells #[v1, v2] t (0, 0))) : Row h 1 id (some ⟨b, 0, none⟩) [[v1], [v2]] := wS (enc := id) (m := 1) (l := [[v1], [v2]]) (by simp) hb
theorem rowX4 {h : AH} {b : Nat} {t : TypeId} {v1 v2 v3 v4 : Value} (hb : h b = some (.cells #[v1, v2, v3, v4] t (0, 0))) : Row h 1 id (some ⟨b, 0, none⟩) [[v1], [v2], [v3], [v4]] := wS (enc := id) (m := 1) (l := [[v1], [v2], [v3], [v4]]) (by simp) hb
theorem tl1 {h : AH} {l : List Int} {A : Option Addr} (c : Nat) (R : Row h 1 intC A l) : TL h l [.slice A l.length c] := ⟨_, rfl, A, c, rfl, R⟩
theorem els2 {h : AH} {l1 l2 : List Int} {v1 v2 : List Value} (R1 : TL h l1 v1) (R2 : TL h l2 v2) : Els h TL [l1, l2] [v1, v2] := Els.snoc (Els.snoc (Els.nil h TL) R1) R2
theorem els4 {h : AH} {l1 l2 l3 l4 : List Int} {v1 v2 v3 v4 : List Value} (R1 : TL h l1 v1) (R2 : TL h l2 v2) (R3 : TL h l3 v3) (R4 : TL h l4 v4) : Els h TL [l1, l2, l3, l4] [v1, v2, v3, v4] := Els.snoc (Els.snoc (Els.snoc (Els.snoc (Els.nil h TL) R1) R2) R3) R4
theorem rowEv (l : List EvP) {h : AH} {b : Nat} (hb : h b = some (.cells (l.flatMap evC).toArray 49 (0, 0))) : Row h 2 evC (some ⟨b, 0, none⟩) l := wS (enc := evC) (m := 2) (l := l) (fun _ _ => rfl) hb
theorem write_c (h : AH) (PW : Pow h) (AB AQ AL AW : Option Addr) (cB cQ cL cW : Nat) (R : MachR h AB AQ AL AW machBare) :
  FnT Tryd.prog 16 #[machV AB AQ AL AW cB cQ cL cW machBare] h (fun v _ => v = .tuple #[.string (bs [77, 47, 51, 47, 52, 47, 49, 47, 54, 47, 50, 10, 66, 47, 48, 10, 66, 47, 49, 10, 80, 47, 48, 47, 49, 47, 52, 10, 76, 47, 49, 47, 50, 47, 45, 49, 47, 52, 10, 87, 47, 49, 10, 87, 47, 50, 10, 87, 47, 51, 10, 87, 47, 52, 10, 69, 10]), .int .i64 0]) :=
 (Write_ok machBare AB AQ AL AW cB cQ cL cW h PW R (by decide)).mono (fun _ _ r => ⟨r.1, by
  rw [r.2, writeV, show chkM machBare = 0 by decide +kernel, if_pos rfl, show writeM machBare = [77, 47, 51, 47, 52, 47, 49, 47, 54, 47, 50, 10, 66, 47, 48, 10, 66, 47, 49, 10, 80, 47, 48, 47, 49, 47, 52, 10, 76, 47, 49, 47, 50, 47, 45, 49, 47, 52, 10, 87, 47, 49, 10, 87, 47, 50, 10, 87, 47, 51, 10, 87, 47, 52, 10, 69, 10] by decide +kernel]⟩) fun _ _ y => y
end
end Go.Proofs.YtmpahfdiebhdbaaDoor
namespace Go.Proofs.YtmpahfdiebhdbaaDoor
open Go Go.HL Go.Proofs Go.Wx Go.Rd
section
variable [Lvl]
set_option maxRecDepth 100000
theorem toldEq (f : FaultP) : pev Tryd.prog (Op.equalIn Op.maxDepth 87 (.agg (toldC f).toArray) (.agg (toldC f).toArray)) = some true := by
 obtain ⟨a, b, e⟩ : ∃ a b : Int, toldC f = [.int .i64 a, .int .i64 b] := by cases f <;> exact ⟨_, _, rfl⟩
 rw [e]
 have h1 := eq_struct (P := Tryd.prog) (t := 87) (d := 9999) (fs := [_, _]) (xs := #[.int .i64 a, .int .i64 b]) (ys := #[.int .i64 a, .int .i64 b]) (rs := [a == a, b == b]) rfl (by kernel_rfl) rfl ?_
 ·refine h1.trans ?_
  simp
 ·intro i f r hf hr
  match i, hf, hr with
  | 0, hf, hr => cases hf; cases hr; exact ⟨by decide, _, _, rfl, rfl, eq_int rfl _ _⟩
  | 1, hf, hr => cases hf; cases hr; exact ⟨by decide, _, _, rfl, rfl, eq_int rfl _ _⟩
  | i + 2, hf, hr => simp at hf
def flts0 : List FaultP := [.shut 0, .shut 1, .shut 2, .shut 3, .opn 0, .opn 1, .opn 2, .opn 3, .pin 0, .pin 1, .pin 2, .pin 3, .link 0, .link 1]
def blm0 : List Int := [3, 3, 2, 2, 2, 2, 2, 2, 3, 3, 2, 2, 2, 2]
theorem useless_c (hph : Lvl.ph = true) (AB AQ AL AW : Option Addr) (cB cQ cL cW : Nat) (h : AH) (RM : MachR h AB AQ AL AW mach0) :
  FnT Tryd.prog 37 #[machV AB AQ AL AW cB cQ cL cW mach0] h (fun v h' => ∃ A c, v = .tuple #[.slice A 0 c, .int .i64 0]) :=
 (Useless_ok hph mach0 AB AQ AL AW cB cQ cL cW h RM (by decide)).mono (fun _ _ r => by obtain ⟨E0, L, rfl, A, c, rfl, R⟩ := r; rw [show uselessL mach0 = [] by decide +kernel, show chkM mach0 = 0 by decide +kernel]; exact ⟨E0, A, c, rfl⟩) fun _ _ y => y
theorem faults_c (AB AQ AL AW : Option Addr) (cB cQ cL cW : Nat) (h : AH) (RM : MachR h AB AQ AL AW mach0) :
  FnT Tryd.prog 38 #[machV AB AQ AL AW cB cQ cL cW mach0] h (fun v h' => ∃ g o c, v = .tuple #[.slice (some ⟨g, o, none⟩) 14 c, .int .i64 0] ∧ Cells h' g o (flts0.flatMap toldC)) :=
 (Faults_ok mach0 AB AQ AL AW cB cQ cL cW h RM (by decide)).mono (fun _ _ r => by
  obtain ⟨E0, L, rfl, A, c, rfl, R⟩ := r
  rw [show faultsL mach0 = flts0 by decide +kernel] at R ⊢
  rw [show chkM mach0 = 0 by decide +kernel]
  obtain ⟨g, o, rfl, C⟩ := R.2 (by simp [flts0, toldC])
  exact ⟨E0, g, o, c, rfl, C⟩) fun _ _ y => y
theorem broken_c (hph : Lvl.ph = true) (fl : List Int) (a : HandP) (l : List Int) (hf : fl.length < 2 ^ 19) (h1 : a.buttons.length < 2 ^ 40) (h2 : a.on.length < 2 ^ 40) (hc : brokenE mach0 fl a = 0) (hl : brokenL mach0 fl a = l) (AB AQ AL AW NA HA OA : Option Addr) (cB cQ cL cW cN cH cO : Nat) (h : AH) (RM : MachR h AB AQ AL AW mach0) (RN : Row h 1 intC NA fl) (RH : HandR h HA OA a) :
  FnT Tryd.prog 39 #[machV AB AQ AL AW cB cQ cL cW mach0, .slice NA fl.length cN, handV HA OA cH cO a] h (fun v h' => ∃ A c, v = .tuple #[.slice A l.length c, .int .i64 0] ∧ Row h' 1 intC A l) :=
 (Broken_ok hph mach0 fl a AB AQ AL AW NA HA OA cB cQ cL cW cN cH cO h RM RN RH (by decide) hf h1 h2).mono (fun _ _ r => by obtain ⟨E0, L, rfl, A, c, rfl, R⟩ := r; rw [hl] at R ⊢; rw [hc]; exact ⟨E0, A, c, rfl, R⟩) fun _ _ y => y
theorem hl0 (l : List Int) (h : l.length < 2 ^ 40) : HLen (heard0 l) := ⟨by show 1 < 2 ^ 40; decide, fun x hx => by cases List.mem_singleton.1 hx; exact ⟨(by decide : 1 < 2 ^ 40), (by decide : 0 < 2 ^ 40), h⟩⟩
theorem susp_c (hph : Lvl.ph = true) (x l : List Int) (e : Int) (hx : x.length < 2 ^ 40) (hc : suspE mach0 (heard0 x) = e) (hl : suspL mach0 (heard0 x) = l) (AB AQ AL AW UA : Option Addr) (cB cQ cL cW cU : Nat) (cs : List (List Value)) (h : AH) (RM : MachR h AB AQ AL AW mach0) (R : Row h 3 id UA cs) (EL : Els h TU (heard0 x) cs) :
  FnT Tryd.prog 20 #[machV AB AQ AL AW cB cQ cL cW mach0, .slice UA (heard0 x).length cU] h (fun v h' => ∃ A c, v = .tuple #[.slice A l.length c, .int .i64 e] ∧ Row h' 1 intC A l) :=
 (Suspects_ok hph mach0 (heard0 x) (hl0 x hx) AB AQ AL AW UA cB cQ cL cW cU cs h RM (by decide) R EL).mono (fun _ _ r => by obtain ⟨E0, L, rfl, A, c, rfl, R⟩ := r; rw [hl] at R ⊢; rw [hc]; exact ⟨E0, A, c, rfl, R⟩) fun _ _ y => y
theorem few_c (hph : Lvl.ph = true) (x l : List Int) (e : Int) (hx : x.length < 2 ^ 40) (hc : fewE mach0 (heard0 x) = e) (hl : fewA mach0 (heard0 x) = l) (AB AQ AL AW UA : Option Addr) (cB cQ cL cW cU : Nat) (cs : List (List Value)) (h : AH) (RM : MachR h AB AQ AL AW mach0) (R : Row h 3 id UA cs) (EL : Els h TU (heard0 x) cs) :
  FnT Tryd.prog 40 #[machV AB AQ AL AW cB cQ cL cW mach0, .slice UA (heard0 x).length cU] h (fun v h' => ∃ A c, v = .tuple #[.slice A l.length c, .int .i64 e] ∧ Row h' 1 intC A l) :=
 (FewestA_ok hph mach0 (heard0 x) (hl0 x hx) AB AQ AL AW UA cB cQ cL cW cU cs h RM (by decide) R EL).mono (fun _ _ r => by obtain ⟨E0, L, rfl, A, c, rfl, R⟩ := r; rw [hl] at R ⊢; rw [hc]; exact ⟨E0, A, c, rfl, R⟩) fun _ _ y => y
theorem blam_c (hph : Lvl.ph = true) (x l : List Int) (e : Int) (hx : x.length < 2 ^ 40) (hc : fewE mach0 (heard0 x) = e) (hl : blamA mach0 (heard0 x) = l) (AB AQ AL AW UA : Option Addr) (cB cQ cL cW cU : Nat) (cs : List (List Value)) (h : AH) (RM : MachR h AB AQ AL AW mach0) (R : Row h 3 id UA cs) (EL : Els h TU (heard0 x) cs) :
  FnT Tryd.prog 41 #[machV AB AQ AL AW cB cQ cL cW mach0, .slice UA (heard0 x).length cU] h (fun v h' => ∃ A c, v = .tuple #[.slice A l.length c, .int .i64 e] ∧ Row h' 1 intC A l) :=
 (BlameA_ok hph mach0 (heard0 x) (hl0 x hx) AB AQ AL AW UA cB cQ cL cW cU cs h RM (by decide) R EL).mono (fun _ _ r => by obtain ⟨E0, L, rfl, A, c, rfl, R⟩ := r; rw [hl] at R ⊢; rw [hc]; exact ⟨E0, A, c, rfl, R⟩) fun _ _ y => y
set_option maxHeartbeats 16000000 in
theorem explained_ok (hph : Lvl.ph = true) (h : AH) : FnT Tryd.prog 17 #[] h (fun v _ => v = .bool true) := by
 refine wL Tryd.func17 rfl Tryd.ntmps17 rfl ?_
 refine qE ?_
 refine qC rfl ?_
 refine qA (qF (v := .bool _) rfl) ?_
 refine qE ?_
 refine qC rfl ?_
 refine qV (caps := []) (vs := []) rfl rfl rfl (machine_ok h) ?_
 rintro _ h1 E1 ⟨AB1, AQ1, AL1, AW1, cB1, cQ1, cL1, cW1, rfl, RM1⟩
 refine qV (caps := []) (vs := [.agg #[.int .i64 _, .int .i64 _, .int .i64 _, .int .i64 _, .int .i64 _, .slice _ _ _, .slice _ _ _, .slice _ _ _, .slice _ _ _]]) rfl rfl rfl ((useless_c hph _ _ _ _ _ _ _ _ h1 (RM1.ext (Ext.refl _)))) ?_
 rintro _ h2 E2 ⟨A2, c2, rfl⟩
 refine qA (qD (v := .tuple #[.slice _ _ _, .int .i64 _]) rfl) ?_
 refine qA (qJ (v := .slice _ _ _) rfl) ?_
 refine qA (qJ (v := .int .i64 _) rfl) ?_
 refine qA (qF (v := .slice _ _ _) rfl) ?_
 refine qA (qF (v := .int .i64 _) rfl) ?_
 refine qE ?_
 refine qC rfl ?_
 refine qV (caps := []) (vs := []) rfl rfl rfl (machine_ok h2) ?_
 rintro _ h3 E3 ⟨AB3, AQ3, AL3, AW3, cB3, cQ3, cL3, cW3, rfl, RM3⟩
 refine qV (caps := []) (vs := [.agg #[.int .i64 _, .int .i64 _, .int .i64 _, .int .i64 _, .int .i64 _, .slice _ _ _, .slice _ _ _, .slice _ _ _, .slice _ _ _]]) rfl rfl rfl ((faults_c _ _ _ _ _ _ _ _ h3 (RM3.ext (Ext.refl _)))) ?_
 rintro _ h4 E4 ⟨gF, oF, cF, rfl, CF⟩
 refine qA (qD (v := .tuple #[.slice _ _ _, .int .i64 _]) rfl) ?_
 refine qA (qJ (v := .slice _ _ _) rfl) ?_
 refine qA (qJ (v := .int .i64 _) rfl) ?_
 refine qA (qF (v := .slice _ _ _) rfl) ?_
 refine qA (qF (v := .int .i64 _) rfl) ?_
 refine qE ?_
 refine qC rfl ?_
 refine qV (caps := []) (vs := []) rfl rfl rfl (machine_ok h4) ?_
 rintro _ h5 E5 ⟨AB5, AQ5, AL5, AW5, cB5, cQ5, cL5, cW5, rfl, RM5⟩
 refine qK (zc := [_]) (vs := [(0, .int .i64 _)]) (cs := [_]) rfl rfl rfl rfl rfl rfl rfl fun b27 hb27 => ?_
 refine qH [_] rfl ?_
 refine qK (zc := [_]) (vs := [(0, .int .i64 _)]) (cs := [_]) rfl rfl rfl rfl rfl rfl rfl fun b28 hb28 => ?_
 refine qH [_, _] rfl ?_
 refine wp_pub 0 rfl rfl ?_
 intro g1 G1 P1
 refine qH [_, _] rfl ?_
 refine wp_pub 1 rfl rfl ?_
 intro g2 G2 P2
 refine qH [_, _] rfl ?_
 refine qH [_, _] rfl ?_
 refine qV (caps := []) (vs := [.slice _ _ _]) rfl rfl rfl (pressed_ok [0] _ _ g2) ?_
 rintro _ h6 E6 rfl
 refine qV (caps := []) (vs := [.agg #[.int .i64 _, .int .i64 _, .int .i64 _, .int .i64 _, .int .i64 _, .slice _ _ _, .slice _ _ _, .slice _ _ _, .slice _ _ _], .slice _ _ _, .agg #[.slice _ _ _, .slice _ _ _]]) rfl rfl rfl ((broken_c hph [9] ⟨[0], []⟩ [0] (by decide) (by decide) (by decide) (by decide +kernel) (by decide +kernel) _ _ _ _ _ _ _ _ _ _ _ _ _ _ h6 (RM5.ext (zL (zL G1 G2) E6)) (rowI [9] ((zL G2 E6) _ _ P1)) ⟨rowI [0] (E6 _ _ P2), row_nil _ _⟩)) ?_
 rintro _ h7 E7 ⟨A7, c7, rfl, R7⟩
 refine qA (qD (v := .tuple #[.slice _ _ _, .int .i64 _]) rfl) ?_
 refine qA (qJ (v := .slice _ _ _) rfl) ?_
 refine qA (qJ (v := .int .i64 _) rfl) ?_
 refine qA (qF (v := .slice _ _ _) rfl) ?_
 refine qA (qF (v := .int .i64 _) rfl) ?_
 refine qE ?_
 refine qC rfl ?_
 refine qV (caps := []) (vs := []) rfl rfl rfl (machine_ok h7) ?_
 rintro _ h8 E8 ⟨AB8, AQ8, AL8, AW8, cB8, cQ8, cL8, cW8, rfl, RM8⟩
 refine qK (zc := [_]) (vs := [(0, .int .i64 _), (1, .int .i64 _)]) (cs := [_, _]) rfl rfl rfl rfl rfl rfl rfl fun b35 hb35 => ?_
 refine qH [_, _, _] rfl ?_
 refine qK (zc := [_]) (vs := [(0, .int .i64 _)]) (cs := [_]) rfl rfl rfl rfl rfl rfl rfl fun b36 hb36 => ?_
 refine qH [_, _, _, _] rfl ?_
 refine wp_pub 2 rfl rfl ?_
 intro g3 G3 P3
 refine qH [_, _, _, _] rfl ?_
 refine wp_pub 3 rfl rfl ?_
 intro g4 G4 P4
 refine qH [_, _, _, _] rfl ?_
 refine qH [_, _, _, _] rfl ?_
 refine qV (caps := []) (vs := [.slice _ _ _]) rfl rfl rfl (pressed_ok [0] _ _ g4) ?_
 rintro _ h9 E9 rfl
 refine qV (caps := []) (vs := [.agg #[.int .i64 _, .int .i64 _, .int .i64 _, .int .i64 _, .int .i64 _, .slice _ _ _, .slice _ _ _, .slice _ _ _, .slice _ _ _], .slice _ _ _, .agg #[.slice _ _ _, .slice _ _ _]]) rfl rfl rfl ((broken_c hph [7, 9] ⟨[0], []⟩ [0, 3] (by decide) (by decide) (by decide) (by decide +kernel) (by decide +kernel) _ _ _ _ _ _ _ _ _ _ _ _ _ _ h9 (RM8.ext (zL (zL G3 G4) E9)) (rowI [7, 9] ((zL G4 E9) _ _ P3)) ⟨rowI [0] (E9 _ _ P4), row_nil _ _⟩)) ?_
 rintro _ h10 E10 ⟨A10, c10, rfl, R10⟩
 refine qA (qD (v := .tuple #[.slice _ _ _, .int .i64 _]) rfl) ?_
 refine qA (qJ (v := .slice _ _ _) rfl) ?_
 refine qA (qJ (v := .int .i64 _) rfl) ?_
 refine qA (qF (v := .slice _ _ _) rfl) ?_
 refine qA (qF (v := .int .i64 _) rfl) ?_
 refine qE ?_
 refine qE ?_
 refine qC rfl ?_
 refine qA (qD (v := .int .i64 _) rfl) ?_
 refine qA (qJ (v := .bool _) rfl) ?_
 refine qA (qD (v := .bool _) rfl) ?_
 refine qG rfl rfl ?_
 refine qA (qD (v := .int .i64 _) rfl) ?_
 refine qG rfl rfl ?_
 refine qA (qJ (v := .bool _) rfl) ?_
 refine qA (wI rfl rfl (v := .bool _) rfl) ?_
 refine qA (qD (v := .bool _) rfl) ?_
 refine qG rfl rfl ?_
 refine qA (qD (v := .int .i64 _) rfl) ?_
 refine qG rfl rfl ?_
 refine qA (qJ (v := .bool _) rfl) ?_
 refine qA (wI rfl rfl (v := .bool _) rfl) ?_
 refine qA (qD (v := .bool _) rfl) ?_
 refine qG rfl rfl ?_
 refine qA (qD (v := .int .i64 _) rfl) ?_
 refine qG rfl rfl ?_
 refine qA (qJ (v := .bool _) rfl) ?_
 refine qA (wI rfl rfl (v := .bool _) rfl) ?_
 refine qA (qD (v := .bool _) rfl) ?_
 refine qG rfl rfl ?_
 refine qA (qD (v := .slice _ _ _) rfl) ?_
 refine qG rfl rfl ?_
 refine qA (wP rfl rfl) ?_
 refine qG rfl rfl ?_
 refine qA (qJ (v := .bool _) rfl) ?_
 refine qA (wI rfl rfl (v := .bool _) rfl) ?_
 refine qA (qD (v := .bool _) rfl) ?_
 refine qG rfl rfl ?_
 refine qA (qD (v := .slice _ _ _) rfl) ?_
 refine qG rfl rfl ?_
 refine qA (wP rfl rfl) ?_
 refine qG rfl rfl ?_
 refine qA (qJ (v := .bool _) rfl) ?_
 refine qA (wI rfl rfl (v := .bool _) rfl) ?_
 refine qA (qD (v := .bool _) rfl) ?_
 refine qG rfl rfl ?_
 refine qA (qD (v := .slice _ _ _) rfl) ?_
 refine qG rfl rfl ?_
 refine qA (zJ (m := 2) rfl rfl rfl rfl (by decide) (by decide)) ?_
 refine qG rfl rfl ?_
 refine op_loadA rfl rfl rfl rfl (cs := [.int .i64 3, .int .i64 0]) (fun j u hu => ?_) ?_
 ·match j, hu with
  | 0, hu => cases hu; exact (CF.ext (zL (zL (zL (zL (zL (zL (zL (zL (zL E5 G1) G2) E6) E7) E8) G3) G4) E9) E10)) 16 _ rfl
  | 1, hu => cases hu; exact (CF.ext (zL (zL (zL (zL (zL (zL (zL (zL (zL E5 G1) G2) E6) E7) E8) G3) G4) E9) E10)) 17 _ rfl
  | j + 2, hu => cases hu
 refine qG rfl rfl ?_
 refine qA (wX (zc := [_, _]) (vs := [(0, .int .i64 _)]) (cs := [_, _]) rfl rfl rfl rfl rfl rfl) ?_
 refine qG rfl rfl ?_
 refine qA (pv_neA rfl rfl (by kernel_rfl) (toldEq (.pin 0))) ?_
 refine qA (wI rfl rfl (v := .bool _) rfl) ?_
 refine qA (qD (v := .bool _) rfl) ?_
 refine qG rfl rfl ?_
 refine qA (qD (v := .slice _ _ _) rfl) ?_
 refine qG rfl rfl ?_
 refine qK (zc := [_]) (vs := [(0, .int .i64 _)]) (cs := [_]) rfl rfl rfl rfl rfl rfl rfl fun b74 hb74 => ?_
 refine qH [_, _, _, _, _] rfl ?_
 refine qG rfl rfl ?_
 refine wp_pub 4 rfl rfl ?_
 intro g5 G5 P5
 refine qH [_, _, _, _, _] rfl ?_
 refine qH [_, _, _, _, _] rfl ?_
 refine qV (caps := []) (vs := [.slice _ _ _, .slice _ _ _]) rfl rfl rfl ((sameI_c [0] (by decide) _ _ _ _ g5 (R7.ext (zL (zL (zL (zL (zL E8 G3) G4) E9) E10) G5)) (rowI [0] ((Ext.refl _) _ _ P5)))) ?_
 rintro _ h11 E11 rfl
 refine qG rfl rfl ?_
 refine qA (qJ (v := .bool _) rfl) ?_
 refine qA (wI rfl rfl (v := .bool _) rfl) ?_
 refine qA (qD (v := .bool _) rfl) ?_
 refine qG rfl rfl ?_
 refine qA (qD (v := .slice _ _ _) rfl) ?_
 refine qG rfl rfl ?_
 refine qK (zc := [_]) (vs := [(0, .int .i64 _), (1, .int .i64 _)]) (cs := [_, _]) rfl rfl rfl rfl rfl rfl rfl fun b80 hb80 => ?_
 refine qH [_, _, _, _, _, _] rfl ?_
 refine qG rfl rfl ?_
 refine wp_pub 5 rfl rfl ?_
 intro g6 G6 P6
 refine qH [_, _, _, _, _, _] rfl ?_
 refine qH [_, _, _, _, _, _] rfl ?_
 refine qV (caps := []) (vs := [.slice _ _ _, .slice _ _ _]) rfl rfl rfl ((sameI_c [0, 3] (by decide) _ _ _ _ g6 (R10.ext (zL (zL G5 E11) G6)) (rowI [0, 3] ((Ext.refl _) _ _ P6)))) ?_
 rintro _ h12 E12 rfl
 refine qG rfl rfl ?_
 refine qA (qJ (v := .bool _) rfl) ?_
 refine qA (wI rfl rfl (v := .bool _) rfl) ?_
 refine wO rfl (rfl) ?_
 refine qP ?_
 refine qE ?_
 refine qC rfl ?_
 refine qV (caps := []) (vs := []) rfl rfl rfl (machine_ok h12) ?_
 rintro _ h13 E13 ⟨AB13, AQ13, AL13, AW13, cB13, cQ13, cL13, cW13, rfl, RM13⟩
 refine qK (zc := [_]) (vs := [(0, .int .i64 _), (1, .int .i64 _), (2, .int .i64 _)]) (cs := [_, _, _]) rfl rfl rfl rfl rfl rfl rfl fun b86 hb86 => ?_
 refine qH [_, _, _, _, _, _, _] rfl ?_
 refine wp_pub 6 rfl rfl ?_
 intro g7 G7 P7
 refine qH [_, _, _, _, _, _, _] rfl ?_
 refine qH [_, _, _, _, _, _, _] rfl ?_
 refine qV (caps := []) (vs := [.slice _ _ _]) rfl rfl rfl ((sounded_ok [0, 1, 3] _ _ g7 (rowI [0, 1, 3] ((Ext.refl _) _ _ P7)))) ?_
 rintro _ h14 E14 ⟨U14, cU14, cs14, rfl, RU14, EU14⟩
 refine qV (caps := []) (vs := [.agg #[.int .i64 _, .int .i64 _, .int .i64 _, .int .i64 _, .int .i64 _, .slice _ _ _, .slice _ _ _, .slice _ _ _, .slice _ _ _], .slice _ _ _]) rfl rfl rfl ((susp_c hph [0, 1, 3] [7] 0 (by decide) (by decide +kernel) (by decide +kernel) _ _ _ _ _ _ _ _ _ _ _ h14 (RM13.ext (zL G7 E14)) (RU14.ext (Ext.refl _)) (EU14.ext TU.mono (Ext.refl _)))) ?_
 rintro _ h15 E15 ⟨A15, c15, rfl, R15⟩
 refine qA (qD (v := .tuple #[.slice _ _ _, .int .i64 _]) rfl) ?_
 refine qA (qJ (v := .slice _ _ _) rfl) ?_
 refine qA (qJ (v := .int .i64 _) rfl) ?_
 refine qA (qF (v := .slice _ _ _) rfl) ?_
 refine qA (qF (v := .int .i64 _) rfl) ?_
 refine qE ?_
 refine qC rfl ?_
 refine qV (caps := []) (vs := []) rfl rfl rfl (machine_ok h15) ?_
 rintro _ h16 E16 ⟨AB16, AQ16, AL16, AW16, cB16, cQ16, cL16, cW16, rfl, RM16⟩
 refine qK (zc := [_]) (vs := [(0, .int .i64 _), (1, .int .i64 _)]) (cs := [_, _]) rfl rfl rfl rfl rfl rfl rfl fun b93 hb93 => ?_
 refine qH [_, _, _, _, _, _, _, _] rfl ?_
 refine wp_pub 7 rfl rfl ?_
 intro g8 G8 P8
 refine qH [_, _, _, _, _, _, _, _] rfl ?_
 refine qH [_, _, _, _, _, _, _, _] rfl ?_
 refine qV (caps := []) (vs := [.slice _ _ _]) rfl rfl rfl ((sounded_ok [0, 1] _ _ g8 (rowI [0, 1] ((Ext.refl _) _ _ P8)))) ?_
 rintro _ h17 E17 ⟨U17, cU17, cs17, rfl, RU17, EU17⟩
 refine qV (caps := []) (vs := [.agg #[.int .i64 _, .int .i64 _, .int .i64 _, .int .i64 _, .int .i64 _, .slice _ _ _, .slice _ _ _, .slice _ _ _, .slice _ _ _], .slice _ _ _]) rfl rfl rfl ((susp_c hph [0, 1] [-1, 2, 3, 4, 5, 10, 11, 12, 13] 0 (by decide) (by decide +kernel) (by decide +kernel) _ _ _ _ _ _ _ _ _ _ _ h17 (RM16.ext (zL G8 E17)) (RU17.ext (Ext.refl _)) (EU17.ext TU.mono (Ext.refl _)))) ?_
 rintro _ h18 E18 ⟨A18, c18, rfl, R18⟩
 refine qA (qD (v := .tuple #[.slice _ _ _, .int .i64 _]) rfl) ?_
 refine qA (qJ (v := .slice _ _ _) rfl) ?_
 refine qA (qJ (v := .int .i64 _) rfl) ?_
 refine qA (qF (v := .slice _ _ _) rfl) ?_
 refine qA (qF (v := .int .i64 _) rfl) ?_
 refine qE ?_
 refine qC rfl ?_
 refine qV (caps := []) (vs := []) rfl rfl rfl (machine_ok h18) ?_
 rintro _ h19 E19 ⟨AB19, AQ19, AL19, AW19, cB19, cQ19, cL19, cW19, rfl, RM19⟩
 refine qK (zc := [_]) (vs := [(0, .int .i64 _)]) (cs := [_]) rfl rfl rfl rfl rfl rfl rfl fun b100 hb100 => ?_
 refine qH [_, _, _, _, _, _, _, _, _] rfl ?_
 refine wp_pub 8 rfl rfl ?_
 intro g9 G9 P9
 refine qH [_, _, _, _, _, _, _, _, _] rfl ?_
 refine qH [_, _, _, _, _, _, _, _, _] rfl ?_
 refine qV (caps := []) (vs := [.slice _ _ _]) rfl rfl rfl ((sounded_ok [3] _ _ g9 (rowI [3] ((Ext.refl _) _ _ P9)))) ?_
 rintro _ h20 E20 ⟨U20, cU20, cs20, rfl, RU20, EU20⟩
 refine qV (caps := []) (vs := [.agg #[.int .i64 _, .int .i64 _, .int .i64 _, .int .i64 _, .int .i64 _, .slice _ _ _, .slice _ _ _, .slice _ _ _, .slice _ _ _], .slice _ _ _]) rfl rfl rfl ((susp_c hph [3] [] 11 (by decide) (by decide +kernel) (by decide +kernel) _ _ _ _ _ _ _ _ _ _ _ h20 (RM19.ext (zL G9 E20)) (RU20.ext (Ext.refl _)) (EU20.ext TU.mono (Ext.refl _)))) ?_
 rintro _ h21 E21 ⟨A21, c21, rfl, R21⟩
 refine qA (qD (v := .tuple #[.slice _ _ _, .int .i64 _]) rfl) ?_
 refine qA (qJ (v := .slice _ _ _) rfl) ?_
 refine qA (qJ (v := .int .i64 _) rfl) ?_
 refine qA (qF (v := .int .i64 _) rfl) ?_
 refine qE ?_
 refine qC rfl ?_
 refine qV (caps := []) (vs := []) rfl rfl rfl (machine_ok h21) ?_
 rintro _ h22 E22 ⟨AB22, AQ22, AL22, AW22, cB22, cQ22, cL22, cW22, rfl, RM22⟩
 refine qK (zc := [_]) (vs := [(0, .int .i64 _)]) (cs := [_]) rfl rfl rfl rfl rfl rfl rfl fun b107 hb107 => ?_
 refine qH [_, _, _, _, _, _, _, _, _, _] rfl ?_
 refine wp_pub 9 rfl rfl ?_
 intro g10 G10 P10
 refine qH [_, _, _, _, _, _, _, _, _, _] rfl ?_
 refine qH [_, _, _, _, _, _, _, _, _, _] rfl ?_
 refine qV (caps := []) (vs := [.slice _ _ _]) rfl rfl rfl ((sounded_ok [0] _ _ g10 (rowI [0] ((Ext.refl _) _ _ P10)))) ?_
 rintro _ h23 E23 ⟨U23, cU23, cs23, rfl, RU23, EU23⟩
 refine qV (caps := []) (vs := [.agg #[.int .i64 _, .int .i64 _, .int .i64 _, .int .i64 _, .int .i64 _, .slice _ _ _, .slice _ _ _, .slice _ _ _, .slice _ _ _], .slice _ _ _]) rfl rfl rfl ((few_c hph [0] [1] 0 (by decide) (by decide +kernel) (by decide +kernel) _ _ _ _ _ _ _ _ _ _ _ h23 (RM22.ext (zL G10 E23)) (RU23.ext (Ext.refl _)) (EU23.ext TU.mono (Ext.refl _)))) ?_
 rintro _ h24 E24 ⟨A24, c24, rfl, R24⟩
 refine qA (qD (v := .tuple #[.slice _ _ _, .int .i64 _]) rfl) ?_
 refine qA (qJ (v := .slice _ _ _) rfl) ?_
 refine qA (qJ (v := .int .i64 _) rfl) ?_
 refine qA (qF (v := .slice _ _ _) rfl) ?_
 refine qA (qF (v := .int .i64 _) rfl) ?_
 refine qE ?_
 refine qC rfl ?_
 refine qV (caps := []) (vs := []) rfl rfl rfl (machine_ok h24) ?_
 rintro _ h25 E25 ⟨AB25, AQ25, AL25, AW25, cB25, cQ25, cL25, cW25, rfl, RM25⟩
 refine qV (caps := []) (vs := [.slice _ _ _]) rfl rfl rfl ((sounded_ok [] none 0 h25 (row_nil _ none))) ?_
 rintro _ h26 E26 ⟨U26, cU26, cs26, rfl, RU26, EU26⟩
 refine qV (caps := []) (vs := [.agg #[.int .i64 _, .int .i64 _, .int .i64 _, .int .i64 _, .int .i64 _, .slice _ _ _, .slice _ _ _, .slice _ _ _, .slice _ _ _], .slice _ _ _]) rfl rfl rfl ((few_c hph [] [0, 1] 0 (by decide) (by decide +kernel) (by decide +kernel) _ _ _ _ _ _ _ _ _ _ _ h26 (RM25.ext E26) (RU26.ext (Ext.refl _)) (EU26.ext TU.mono (Ext.refl _)))) ?_
 rintro _ h27 E27 ⟨A27, c27, rfl, R27⟩
 refine qA (qD (v := .tuple #[.slice _ _ _, .int .i64 _]) rfl) ?_
 refine qA (qJ (v := .slice _ _ _) rfl) ?_
 refine qA (qJ (v := .int .i64 _) rfl) ?_
 refine qA (qF (v := .slice _ _ _) rfl) ?_
 refine qA (qF (v := .int .i64 _) rfl) ?_
 refine qE ?_
 refine qC rfl ?_
 refine qV (caps := []) (vs := []) rfl rfl rfl (machine_ok h27) ?_
 rintro _ h28 E28 ⟨AB28, AQ28, AL28, AW28, cB28, cQ28, cL28, cW28, rfl, RM28⟩
 refine qV (caps := []) (vs := [.slice _ _ _]) rfl rfl rfl ((sounded_ok [] none 0 h28 (row_nil _ none))) ?_
 rintro _ h29 E29 ⟨U29, cU29, cs29, rfl, RU29, EU29⟩
 refine qV (caps := []) (vs := [.agg #[.int .i64 _, .int .i64 _, .int .i64 _, .int .i64 _, .int .i64 _, .slice _ _ _, .slice _ _ _, .slice _ _ _, .slice _ _ _], .slice _ _ _]) rfl rfl rfl ((blam_c hph [] blm0 0 (by decide) (by decide +kernel) (by decide +kernel) _ _ _ _ _ _ _ _ _ _ _ h29 (RM28.ext E29) (RU29.ext (Ext.refl _)) (EU29.ext TU.mono (Ext.refl _)))) ?_
 rintro _ h30 E30 ⟨A30, c30, rfl, R30⟩
 obtain ⟨gv, ov, rfl, CV⟩ := R30.2 (by decide)
 refine qA (qD (v := .tuple #[.slice _ _ _, .int .i64 _]) rfl) ?_
 refine qA (qJ (v := .slice _ _ _) rfl) ?_
 refine qA (qJ (v := .int .i64 _) rfl) ?_
 refine qA (qF (v := .slice _ _ _) rfl) ?_
 refine qA (qF (v := .int .i64 _) rfl) ?_
 refine qE ?_
 refine qE ?_
 refine qC rfl ?_
 refine qA (qD (v := .int .i64 _) rfl) ?_
 refine qA (qJ (v := .bool _) rfl) ?_
 refine qA (qD (v := .bool _) rfl) ?_
 refine qG rfl rfl ?_
 refine qA (qD (v := .int .i64 _) rfl) ?_
 refine qG rfl rfl ?_
 refine qA (qJ (v := .bool _) rfl) ?_
 refine qA (wI rfl rfl (v := .bool _) rfl) ?_
 refine qA (qD (v := .bool _) rfl) ?_
 refine qG rfl rfl ?_
 refine qA (qD (v := .int .i64 _) rfl) ?_
 refine qG rfl rfl ?_
 refine qA (qJ (v := .bool _) rfl) ?_
 refine qA (wI rfl rfl (v := .bool _) rfl) ?_
 refine qA (qD (v := .bool _) rfl) ?_
 refine qG rfl rfl ?_
 refine qA (qD (v := .int .i64 _) rfl) ?_
 refine qG rfl rfl ?_
 refine qA (qJ (v := .bool _) rfl) ?_
 refine qA (wI rfl rfl (v := .bool _) rfl) ?_
 refine qA (qD (v := .bool _) rfl) ?_
 refine qG rfl rfl ?_
 refine qA (qD (v := .int .i64 _) rfl) ?_
 refine qG rfl rfl ?_
 refine qA (qJ (v := .bool _) rfl) ?_
 refine qA (wI rfl rfl (v := .bool _) rfl) ?_
 refine qA (qD (v := .bool _) rfl) ?_
 refine qG rfl rfl ?_
 refine qA (qD (v := .int .i64 _) rfl) ?_
 refine qG rfl rfl ?_
 refine qA (qJ (v := .bool _) rfl) ?_
 refine qA (wI rfl rfl (v := .bool _) rfl) ?_
 refine qA (qD (v := .bool _) rfl) ?_
 refine qG rfl rfl ?_
 refine qA (qD (v := .slice _ _ _) rfl) ?_
 refine qG rfl rfl ?_
 refine qA (wP rfl rfl) ?_
 refine qG rfl rfl ?_
 refine qA (qJ (v := .bool _) rfl) ?_
 refine qA (wI rfl rfl (v := .bool _) rfl) ?_
 refine qA (qD (v := .bool _) rfl) ?_
 refine qG rfl rfl ?_
 refine qA (qD (v := .slice _ _ _) rfl) ?_
 refine qG rfl rfl ?_
 refine qK (zc := [_]) (vs := [(0, .int .i64 _)]) (cs := [_]) rfl rfl rfl rfl rfl rfl rfl fun b153 hb153 => ?_
 refine qH [_, _, _, _, _, _, _, _, _, _, _] rfl ?_
 refine qG rfl rfl ?_
 refine wp_pub 10 rfl rfl ?_
 intro g11 G11 P11
 refine qH [_, _, _, _, _, _, _, _, _, _, _] rfl ?_
 refine qH [_, _, _, _, _, _, _, _, _, _, _] rfl ?_
 refine qV (caps := []) (vs := [.slice _ _ _, .slice _ _ _]) rfl rfl rfl ((sameI_c [7] (by decide) _ _ _ _ g11 (R15.ext (zL (zL (zL (zL (zL (zL (zL (zL (zL (zL (zL (zL (zL (zL (zL (zL (zL (zL E16 G8) E17) E18) E19) G9) E20) E21) E22) G10) E23) E24) E25) E26) E27) E28) E29) E30) G11)) (rowI [7] ((Ext.refl _) _ _ P11)))) ?_
 rintro _ h31 E31 rfl
 refine qG rfl rfl ?_
 refine qA (qJ (v := .bool _) rfl) ?_
 refine qA (wI rfl rfl (v := .bool _) rfl) ?_
 refine qA (qD (v := .bool _) rfl) ?_
 refine qG rfl rfl ?_
 refine qA (qD (v := .slice _ _ _) rfl) ?_
 refine qG rfl rfl ?_
 refine qK (zc := [_]) (vs := [(0, .int .i64 _), (1, .int .i64 _), (2, .int .i64 _), (3, .int .i64 _), (4, .int .i64 _), (5, .int .i64 _), (6, .int .i64 _), (7, .int .i64 _), (8, .int .i64 _)]) (cs := [_, _, _, _, _, _, _, _, _]) rfl rfl rfl rfl rfl rfl rfl fun b159 hb159 => ?_
 refine qH [_, _, _, _, _, _, _, _, _, _, _, _] rfl ?_
 refine qG rfl rfl ?_
 refine wp_pub 11 rfl rfl ?_
 intro g12 G12 P12
 refine qH [_, _, _, _, _, _, _, _, _, _, _, _] rfl ?_
 refine qH [_, _, _, _, _, _, _, _, _, _, _, _] rfl ?_
 refine qV (caps := []) (vs := [.slice _ _ _, .slice _ _ _]) rfl rfl rfl ((sameI_c [-1, 2, 3, 4, 5, 10, 11, 12, 13] (by decide) _ _ _ _ g12 (R18.ext (zL (zL (zL (zL (zL (zL (zL (zL (zL (zL (zL (zL (zL (zL (zL (zL E19 G9) E20) E21) E22) G10) E23) E24) E25) E26) E27) E28) E29) E30) G11) E31) G12)) (rowI [-1, 2, 3, 4, 5, 10, 11, 12, 13] ((Ext.refl _) _ _ P12)))) ?_
 rintro _ h32 E32 rfl
 refine qG rfl rfl ?_
 refine qA (qJ (v := .bool _) rfl) ?_
 refine qA (wI rfl rfl (v := .bool _) rfl) ?_
 refine qA (qD (v := .bool _) rfl) ?_
 refine qG rfl rfl ?_
 refine qA (qD (v := .slice _ _ _) rfl) ?_
 refine qG rfl rfl ?_
 refine qK (zc := [_]) (vs := [(0, .int .i64 _)]) (cs := [_]) rfl rfl rfl rfl rfl rfl rfl fun b165 hb165 => ?_
 refine qH [_, _, _, _, _, _, _, _, _, _, _, _, _] rfl ?_
 refine qG rfl rfl ?_
 refine wp_pub 12 rfl rfl ?_
 intro g13 G13 P13
 refine qH [_, _, _, _, _, _, _, _, _, _, _, _, _] rfl ?_
 refine qH [_, _, _, _, _, _, _, _, _, _, _, _, _] rfl ?_
 refine qV (caps := []) (vs := [.slice _ _ _, .slice _ _ _]) rfl rfl rfl ((sameI_c [1] (by decide) _ _ _ _ g13 (R24.ext (zL (zL (zL (zL (zL (zL (zL (zL (zL (zL E25 E26) E27) E28) E29) E30) G11) E31) G12) E32) G13)) (rowI [1] ((Ext.refl _) _ _ P13)))) ?_
 rintro _ h33 E33 rfl
 refine qG rfl rfl ?_
 refine qA (qJ (v := .bool _) rfl) ?_
 refine qA (wI rfl rfl (v := .bool _) rfl) ?_
 refine qA (qD (v := .bool _) rfl) ?_
 refine qG rfl rfl ?_
 refine qA (qD (v := .slice _ _ _) rfl) ?_
 refine qG rfl rfl ?_
 refine qK (zc := [_]) (vs := [(0, .int .i64 _), (1, .int .i64 _)]) (cs := [_, _]) rfl rfl rfl rfl rfl rfl rfl fun b171 hb171 => ?_
 refine qH [_, _, _, _, _, _, _, _, _, _, _, _, _, _] rfl ?_
 refine qG rfl rfl ?_
 refine wp_pub 13 rfl rfl ?_
 intro g14 G14 P14
 refine qH [_, _, _, _, _, _, _, _, _, _, _, _, _, _] rfl ?_
 refine qH [_, _, _, _, _, _, _, _, _, _, _, _, _, _] rfl ?_
 refine qV (caps := []) (vs := [.slice _ _ _, .slice _ _ _]) rfl rfl rfl ((sameI_c [0, 1] (by decide) _ _ _ _ g14 (R27.ext (zL (zL (zL (zL (zL (zL (zL (zL (zL E28 E29) E30) G11) E31) G12) E32) G13) E33) G14)) (rowI [0, 1] ((Ext.refl _) _ _ P14)))) ?_
 rintro _ h34 E34 rfl
 refine qG rfl rfl ?_
 refine qA (qJ (v := .bool _) rfl) ?_
 refine qA (wI rfl rfl (v := .bool _) rfl) ?_
 refine wO rfl (rfl) ?_
 refine qP ?_
 refine qE ?_
 refine qE ?_
 refine qC rfl ?_
 refine qA (qF (v := .int .i64 _) rfl) ?_
 refine qT ?_
 refine xp_unroll ?_
 refine qE ?_
 refine qE ?_
 refine qC rfl ?_
 refine qA (qD (v := .int .i64 _) rfl) ?_
 refine qA (qD (v := .slice _ _ _) rfl) ?_
 refine qA (wP rfl rfl) ?_
 refine qA (qJ (v := .bool _) rfl) ?_
 refine wY rfl (rfl) ?_
 refine qP ?_
 refine qE ?_
 refine qT ?_
 refine qE ?_
 refine qC rfl ?_
 refine qA (qF (v := .int .i64 _) rfl) ?_
 refine qE ?_
 refine qE ?_
 refine qC rfl ?_
 refine qA (qD (v := .int .i64 _) rfl) ?_
 refine qA (qJ (v := .bool _) rfl) ?_
 refine qA (qD (v := .bool _) rfl) ?_
 refine qR rfl rfl ?_
 refine qR rfl rfl ?_
 refine qA (wV rfl rfl (v := .bool _) rfl) ?_
 refine qA (qD (v := .bool _) rfl) ?_
 refine qR rfl rfl ?_
 refine qR rfl rfl ?_
 refine qA (wV rfl rfl (v := .bool _) rfl) ?_
 refine wY rfl (rfl) ?_
 refine qC rfl ?_
 refine qA (qF (v := .int .i64 _) rfl) ?_
 refine qE ?_
 refine qC rfl ?_
 refine qA (qD (v := .slice _ _ _) rfl) ?_
 refine qA (qD (v := .int .i64 _) rfl) ?_
 refine qA (zJ (m := 1) rfl rfl rfl rfl (by decide) (by decide)) ?_
 refine wT (v := .int .i64 _) rfl rfl ((CV.ext (zL (zL (zL (zL (zL (zL (zL G11 E31) G12) E32) G13) E33) G14) E34)) 0 _ rfl) ?_
 refine qA (qD (v := .int .i64 _) rfl) ?_
 refine qA (qJ (v := .bool _) rfl) ?_
 refine wO rfl (rfl) ?_
 refine qP ?_
 refine qC rfl ?_
 refine qA (qD (v := .int .i64 _) rfl) ?_
 refine qA (qX rfl (by omega)) ?_
 refine qA (qF (v := .int .i64 _) rfl) ?_
 refine zK ?_
 refine qE ?_
 refine qE ?_
 refine qC rfl ?_
 refine qA (qD (v := .int .i64 _) rfl) ?_
 refine qA (qD (v := .slice _ _ _) rfl) ?_
 refine qA (wP rfl rfl) ?_
 refine qA (qJ (v := .bool _) rfl) ?_
 refine wY rfl (rfl) ?_
 refine qP ?_
 refine qE ?_
 refine qT ?_
 refine qE ?_
 refine qC rfl ?_
 refine qA (qF (v := .int .i64 _) rfl) ?_
 refine qE ?_
 refine qE ?_
 refine qC rfl ?_
 refine qA (qD (v := .int .i64 _) rfl) ?_
 refine qA (qJ (v := .bool _) rfl) ?_
 refine qA (qD (v := .bool _) rfl) ?_
 refine qR rfl rfl ?_
 refine qR rfl rfl ?_
 refine qA (wV rfl rfl (v := .bool _) rfl) ?_
 refine qA (qD (v := .bool _) rfl) ?_
 refine qR rfl rfl ?_
 refine qR rfl rfl ?_
 refine qA (wV rfl rfl (v := .bool _) rfl) ?_
 refine wY rfl (rfl) ?_
 refine qC rfl ?_
 refine qA (qF (v := .int .i64 _) rfl) ?_
 refine qE ?_
 refine qC rfl ?_
 refine qA (qD (v := .slice _ _ _) rfl) ?_
 refine qA (qD (v := .int .i64 _) rfl) ?_
 refine qA (zJ (m := 1) rfl rfl rfl rfl (by decide) (by decide)) ?_
 refine wT (v := .int .i64 _) rfl rfl ((CV.ext (zL (zL (zL (zL (zL (zL (zL G11 E31) G12) E32) G13) E33) G14) E34)) 1 _ rfl) ?_
 refine qA (qD (v := .int .i64 _) rfl) ?_
 refine qA (qJ (v := .bool _) rfl) ?_
 refine wO rfl (rfl) ?_
 refine qP ?_
 refine qC rfl ?_
 refine qA (qD (v := .int .i64 _) rfl) ?_
 refine qA (qX rfl (by omega)) ?_
 refine qA (qF (v := .int .i64 _) rfl) ?_
 refine zK ?_
 refine qE ?_
 refine qE ?_
 refine qC rfl ?_
 refine qA (qD (v := .int .i64 _) rfl) ?_
 refine qA (qD (v := .slice _ _ _) rfl) ?_
 refine qA (wP rfl rfl) ?_
 refine qA (qJ (v := .bool _) rfl) ?_
 refine wY rfl (rfl) ?_
 refine qP ?_
 refine qE ?_
 refine qT ?_
 refine qE ?_
 refine qC rfl ?_
 refine qA (qF (v := .int .i64 _) rfl) ?_
 refine qE ?_
 refine qE ?_
 refine qC rfl ?_
 refine qA (qD (v := .int .i64 _) rfl) ?_
 refine qA (qJ (v := .bool _) rfl) ?_
 refine qA (qD (v := .bool _) rfl) ?_
 refine qG rfl rfl ?_
 refine qA (qD (v := .int .i64 _) rfl) ?_
 refine qG rfl rfl ?_
 refine qA (qJ (v := .bool _) rfl) ?_
 refine qA (wI rfl rfl (v := .bool _) rfl) ?_
 refine qA (qD (v := .bool _) rfl) ?_
 refine qG rfl rfl ?_
 refine qA (qD (v := .int .i64 _) rfl) ?_
 refine qG rfl rfl ?_
 refine qA (qJ (v := .bool _) rfl) ?_
 refine qA (wI rfl rfl (v := .bool _) rfl) ?_
 refine wO rfl (rfl) ?_
 refine qP ?_
 refine qE ?_
 refine qC rfl ?_
 refine qA (qD (v := .slice _ _ _) rfl) ?_
 refine qA (qD (v := .int .i64 _) rfl) ?_
 refine qA (zJ (m := 1) rfl rfl rfl rfl (by decide) (by decide)) ?_
 refine wT (v := .int .i64 _) rfl rfl ((CV.ext (zL (zL (zL (zL (zL (zL (zL G11 E31) G12) E32) G13) E33) G14) E34)) 2 _ rfl) ?_
 refine qA (qD (v := .int .i64 _) rfl) ?_
 refine qA (qJ (v := .bool _) rfl) ?_
 refine wO rfl (rfl) ?_
 refine qP ?_
 refine qC rfl ?_
 refine qA (qD (v := .int .i64 _) rfl) ?_
 refine qA (qX rfl (by omega)) ?_
 refine qA (qF (v := .int .i64 _) rfl) ?_
 refine zK ?_
 refine qE ?_
 refine qE ?_
 refine qC rfl ?_
 refine qA (qD (v := .int .i64 _) rfl) ?_
 refine qA (qD (v := .slice _ _ _) rfl) ?_
 refine qA (wP rfl rfl) ?_
 refine qA (qJ (v := .bool _) rfl) ?_
 refine wY rfl (rfl) ?_
 refine qP ?_
 refine qE ?_
 refine qT ?_
 refine qE ?_
 refine qC rfl ?_
 refine qA (qF (v := .int .i64 _) rfl) ?_
 refine qE ?_
 refine qE ?_
 refine qC rfl ?_
 refine qA (qD (v := .int .i64 _) rfl) ?_
 refine qA (qJ (v := .bool _) rfl) ?_
 refine qA (qD (v := .bool _) rfl) ?_
 refine qG rfl rfl ?_
 refine qA (qD (v := .int .i64 _) rfl) ?_
 refine qG rfl rfl ?_
 refine qA (qJ (v := .bool _) rfl) ?_
 refine qA (wI rfl rfl (v := .bool _) rfl) ?_
 refine qA (qD (v := .bool _) rfl) ?_
 refine qG rfl rfl ?_
 refine qA (qD (v := .int .i64 _) rfl) ?_
 refine qG rfl rfl ?_
 refine qA (qJ (v := .bool _) rfl) ?_
 refine qA (wI rfl rfl (v := .bool _) rfl) ?_
 refine wO rfl (rfl) ?_
 refine qP ?_
 refine qE ?_
 refine qC rfl ?_
 refine qA (qD (v := .slice _ _ _) rfl) ?_
 refine qA (qD (v := .int .i64 _) rfl) ?_
 refine qA (zJ (m := 1) rfl rfl rfl rfl (by decide) (by decide)) ?_
 refine wT (v := .int .i64 _) rfl rfl ((CV.ext (zL (zL (zL (zL (zL (zL (zL G11 E31) G12) E32) G13) E33) G14) E34)) 3 _ rfl) ?_
 refine qA (qD (v := .int .i64 _) rfl) ?_
 refine qA (qJ (v := .bool _) rfl) ?_
 refine wO rfl (rfl) ?_
 refine qP ?_
 refine qC rfl ?_
 refine qA (qD (v := .int .i64 _) rfl) ?_
 refine qA (qX rfl (by omega)) ?_
 refine qA (qF (v := .int .i64 _) rfl) ?_
 refine zK ?_
 refine qE ?_
 refine qE ?_
 refine qC rfl ?_
 refine qA (qD (v := .int .i64 _) rfl) ?_
 refine qA (qD (v := .slice _ _ _) rfl) ?_
 refine qA (wP rfl rfl) ?_
 refine qA (qJ (v := .bool _) rfl) ?_
 refine wY rfl (rfl) ?_
 refine qP ?_
 refine qE ?_
 refine qT ?_
 refine qE ?_
 refine qC rfl ?_
 refine qA (qF (v := .int .i64 _) rfl) ?_
 refine qE ?_
 refine qE ?_
 refine qC rfl ?_
 refine qA (qD (v := .int .i64 _) rfl) ?_
 refine qA (qJ (v := .bool _) rfl) ?_
 refine qA (qD (v := .bool _) rfl) ?_
 refine qG rfl rfl ?_
 refine qA (qD (v := .int .i64 _) rfl) ?_
 refine qG rfl rfl ?_
 refine qA (qJ (v := .bool _) rfl) ?_
 refine qA (wI rfl rfl (v := .bool _) rfl) ?_
 refine qA (qD (v := .bool _) rfl) ?_
 refine qG rfl rfl ?_
 refine qA (qD (v := .int .i64 _) rfl) ?_
 refine qG rfl rfl ?_
 refine qA (qJ (v := .bool _) rfl) ?_
 refine qA (wI rfl rfl (v := .bool _) rfl) ?_
 refine wO rfl (rfl) ?_
 refine qP ?_
 refine qE ?_
 refine qC rfl ?_
 refine qA (qD (v := .slice _ _ _) rfl) ?_
 refine qA (qD (v := .int .i64 _) rfl) ?_
 refine qA (zJ (m := 1) rfl rfl rfl rfl (by decide) (by decide)) ?_
 refine wT (v := .int .i64 _) rfl rfl ((CV.ext (zL (zL (zL (zL (zL (zL (zL G11 E31) G12) E32) G13) E33) G14) E34)) 4 _ rfl) ?_
 refine qA (qD (v := .int .i64 _) rfl) ?_
 refine qA (qJ (v := .bool _) rfl) ?_
 refine wO rfl (rfl) ?_
 refine qP ?_
 refine qC rfl ?_
 refine qA (qD (v := .int .i64 _) rfl) ?_
 refine qA (qX rfl (by omega)) ?_
 refine qA (qF (v := .int .i64 _) rfl) ?_
 refine zK ?_
 refine qE ?_
 refine qE ?_
 refine qC rfl ?_
 refine qA (qD (v := .int .i64 _) rfl) ?_
 refine qA (qD (v := .slice _ _ _) rfl) ?_
 refine qA (wP rfl rfl) ?_
 refine qA (qJ (v := .bool _) rfl) ?_
 refine wY rfl (rfl) ?_
 refine qP ?_
 refine qE ?_
 refine qT ?_
 refine qE ?_
 refine qC rfl ?_
 refine qA (qF (v := .int .i64 _) rfl) ?_
 refine qE ?_
 refine qE ?_
 refine qC rfl ?_
 refine qA (qD (v := .int .i64 _) rfl) ?_
 refine qA (qJ (v := .bool _) rfl) ?_
 refine qA (qD (v := .bool _) rfl) ?_
 refine qG rfl rfl ?_
 refine qA (qD (v := .int .i64 _) rfl) ?_
 refine qG rfl rfl ?_
 refine qA (qJ (v := .bool _) rfl) ?_
 refine qA (wI rfl rfl (v := .bool _) rfl) ?_
 refine qA (qD (v := .bool _) rfl) ?_
 refine qG rfl rfl ?_
 refine qA (qD (v := .int .i64 _) rfl) ?_
 refine qG rfl rfl ?_
 refine qA (qJ (v := .bool _) rfl) ?_
 refine qA (wI rfl rfl (v := .bool _) rfl) ?_
 refine wO rfl (rfl) ?_
 refine qP ?_
 refine qE ?_
 refine qC rfl ?_
 refine qA (qD (v := .slice _ _ _) rfl) ?_
 refine qA (qD (v := .int .i64 _) rfl) ?_
 refine qA (zJ (m := 1) rfl rfl rfl rfl (by decide) (by decide)) ?_
 refine wT (v := .int .i64 _) rfl rfl ((CV.ext (zL (zL (zL (zL (zL (zL (zL G11 E31) G12) E32) G13) E33) G14) E34)) 5 _ rfl) ?_
 refine qA (qD (v := .int .i64 _) rfl) ?_
 refine qA (qJ (v := .bool _) rfl) ?_
 refine wO rfl (rfl) ?_
 refine qP ?_
 refine qC rfl ?_
 refine qA (qD (v := .int .i64 _) rfl) ?_
 refine qA (qX rfl (by omega)) ?_
 refine qA (qF (v := .int .i64 _) rfl) ?_
 refine zK ?_
 refine qE ?_
 refine qE ?_
 refine qC rfl ?_
 refine qA (qD (v := .int .i64 _) rfl) ?_
 refine qA (qD (v := .slice _ _ _) rfl) ?_
 refine qA (wP rfl rfl) ?_
 refine qA (qJ (v := .bool _) rfl) ?_
 refine wY rfl (rfl) ?_
 refine qP ?_
 refine qE ?_
 refine qT ?_
 refine qE ?_
 refine qC rfl ?_
 refine qA (qF (v := .int .i64 _) rfl) ?_
 refine qE ?_
 refine qE ?_
 refine qC rfl ?_
 refine qA (qD (v := .int .i64 _) rfl) ?_
 refine qA (qJ (v := .bool _) rfl) ?_
 refine qA (qD (v := .bool _) rfl) ?_
 refine qG rfl rfl ?_
 refine qA (qD (v := .int .i64 _) rfl) ?_
 refine qG rfl rfl ?_
 refine qA (qJ (v := .bool _) rfl) ?_
 refine qA (wI rfl rfl (v := .bool _) rfl) ?_
 refine qA (qD (v := .bool _) rfl) ?_
 refine qG rfl rfl ?_
 refine qA (qD (v := .int .i64 _) rfl) ?_
 refine qG rfl rfl ?_
 refine qA (qJ (v := .bool _) rfl) ?_
 refine qA (wI rfl rfl (v := .bool _) rfl) ?_
 refine wO rfl (rfl) ?_
 refine qP ?_
 refine qE ?_
 refine qC rfl ?_
 refine qA (qD (v := .slice _ _ _) rfl) ?_
 refine qA (qD (v := .int .i64 _) rfl) ?_
 refine qA (zJ (m := 1) rfl rfl rfl rfl (by decide) (by decide)) ?_
 refine wT (v := .int .i64 _) rfl rfl ((CV.ext (zL (zL (zL (zL (zL (zL (zL G11 E31) G12) E32) G13) E33) G14) E34)) 6 _ rfl) ?_
 refine qA (qD (v := .int .i64 _) rfl) ?_
 refine qA (qJ (v := .bool _) rfl) ?_
 refine wO rfl (rfl) ?_
 refine qP ?_
 refine qC rfl ?_
 refine qA (qD (v := .int .i64 _) rfl) ?_
 refine qA (qX rfl (by omega)) ?_
 refine qA (qF (v := .int .i64 _) rfl) ?_
 refine zK ?_
 refine qE ?_
 refine qE ?_
 refine qC rfl ?_
 refine qA (qD (v := .int .i64 _) rfl) ?_
 refine qA (qD (v := .slice _ _ _) rfl) ?_
 refine qA (wP rfl rfl) ?_
 refine qA (qJ (v := .bool _) rfl) ?_
 refine wY rfl (rfl) ?_
 refine qP ?_
 refine qE ?_
 refine qT ?_
 refine qE ?_
 refine qC rfl ?_
 refine qA (qF (v := .int .i64 _) rfl) ?_
 refine qE ?_
 refine qE ?_
 refine qC rfl ?_
 refine qA (qD (v := .int .i64 _) rfl) ?_
 refine qA (qJ (v := .bool _) rfl) ?_
 refine qA (qD (v := .bool _) rfl) ?_
 refine qG rfl rfl ?_
 refine qA (qD (v := .int .i64 _) rfl) ?_
 refine qG rfl rfl ?_
 refine qA (qJ (v := .bool _) rfl) ?_
 refine qA (wI rfl rfl (v := .bool _) rfl) ?_
 refine qA (qD (v := .bool _) rfl) ?_
 refine qG rfl rfl ?_
 refine qA (qD (v := .int .i64 _) rfl) ?_
 refine qG rfl rfl ?_
 refine qA (qJ (v := .bool _) rfl) ?_
 refine qA (wI rfl rfl (v := .bool _) rfl) ?_
 refine wO rfl (rfl) ?_
 refine qP ?_
 refine qE ?_
 refine qC rfl ?_
 refine qA (qD (v := .slice _ _ _) rfl) ?_
 refine qA (qD (v := .int .i64 _) rfl) ?_
 refine qA (zJ (m := 1) rfl rfl rfl rfl (by decide) (by decide)) ?_
 refine wT (v := .int .i64 _) rfl rfl ((CV.ext (zL (zL (zL (zL (zL (zL (zL G11 E31) G12) E32) G13) E33) G14) E34)) 7 _ rfl) ?_
 refine qA (qD (v := .int .i64 _) rfl) ?_
 refine qA (qJ (v := .bool _) rfl) ?_
 refine wO rfl (rfl) ?_
 refine qP ?_
 refine qC rfl ?_
 refine qA (qD (v := .int .i64 _) rfl) ?_
 refine qA (qX rfl (by omega)) ?_
 refine qA (qF (v := .int .i64 _) rfl) ?_
 refine zK ?_
 refine qE ?_
 refine qE ?_
 refine qC rfl ?_
 refine qA (qD (v := .int .i64 _) rfl) ?_
 refine qA (qD (v := .slice _ _ _) rfl) ?_
 refine qA (wP rfl rfl) ?_
 refine qA (qJ (v := .bool _) rfl) ?_
 refine wY rfl (rfl) ?_
 refine qP ?_
 refine qE ?_
 refine qT ?_
 refine qE ?_
 refine qC rfl ?_
 refine qA (qF (v := .int .i64 _) rfl) ?_
 refine qE ?_
 refine qE ?_
 refine qC rfl ?_
 refine qA (qD (v := .int .i64 _) rfl) ?_
 refine qA (qJ (v := .bool _) rfl) ?_
 refine qA (qD (v := .bool _) rfl) ?_
 refine qG rfl rfl ?_
 refine qA (qD (v := .int .i64 _) rfl) ?_
 refine qG rfl rfl ?_
 refine qA (qJ (v := .bool _) rfl) ?_
 refine qA (wI rfl rfl (v := .bool _) rfl) ?_
 refine qA (qD (v := .bool _) rfl) ?_
 refine qR rfl rfl ?_
 refine qR rfl rfl ?_
 refine qA (wV rfl rfl (v := .bool _) rfl) ?_
 refine wY rfl (rfl) ?_
 refine qC rfl ?_
 refine qA (qF (v := .int .i64 _) rfl) ?_
 refine qE ?_
 refine qC rfl ?_
 refine qA (qD (v := .slice _ _ _) rfl) ?_
 refine qA (qD (v := .int .i64 _) rfl) ?_
 refine qA (zJ (m := 1) rfl rfl rfl rfl (by decide) (by decide)) ?_
 refine wT (v := .int .i64 _) rfl rfl ((CV.ext (zL (zL (zL (zL (zL (zL (zL G11 E31) G12) E32) G13) E33) G14) E34)) 8 _ rfl) ?_
 refine qA (qD (v := .int .i64 _) rfl) ?_
 refine qA (qJ (v := .bool _) rfl) ?_
 refine wO rfl (rfl) ?_
 refine qP ?_
 refine qC rfl ?_
 refine qA (qD (v := .int .i64 _) rfl) ?_
 refine qA (qX rfl (by omega)) ?_
 refine qA (qF (v := .int .i64 _) rfl) ?_
 refine zK ?_
 refine qE ?_
 refine qE ?_
 refine qC rfl ?_
 refine qA (qD (v := .int .i64 _) rfl) ?_
 refine qA (qD (v := .slice _ _ _) rfl) ?_
 refine qA (wP rfl rfl) ?_
 refine qA (qJ (v := .bool _) rfl) ?_
 refine wY rfl (rfl) ?_
 refine qP ?_
 refine qE ?_
 refine qT ?_
 refine qE ?_
 refine qC rfl ?_
 refine qA (qF (v := .int .i64 _) rfl) ?_
 refine qE ?_
 refine qE ?_
 refine qC rfl ?_
 refine qA (qD (v := .int .i64 _) rfl) ?_
 refine qA (qJ (v := .bool _) rfl) ?_
 refine qA (qD (v := .bool _) rfl) ?_
 refine qG rfl rfl ?_
 refine qA (qD (v := .int .i64 _) rfl) ?_
 refine qG rfl rfl ?_
 refine qA (qJ (v := .bool _) rfl) ?_
 refine qA (wI rfl rfl (v := .bool _) rfl) ?_
 refine qA (qD (v := .bool _) rfl) ?_
 refine qG rfl rfl ?_
 refine qA (qD (v := .int .i64 _) rfl) ?_
 refine qG rfl rfl ?_
 refine qA (qJ (v := .bool _) rfl) ?_
 refine qA (wI rfl rfl (v := .bool _) rfl) ?_
 refine wY rfl (rfl) ?_
 refine qC rfl ?_
 refine qA (qF (v := .int .i64 _) rfl) ?_
 refine qE ?_
 refine qC rfl ?_
 refine qA (qD (v := .slice _ _ _) rfl) ?_
 refine qA (qD (v := .int .i64 _) rfl) ?_
 refine qA (zJ (m := 1) rfl rfl rfl rfl (by decide) (by decide)) ?_
 refine wT (v := .int .i64 _) rfl rfl ((CV.ext (zL (zL (zL (zL (zL (zL (zL G11 E31) G12) E32) G13) E33) G14) E34)) 9 _ rfl) ?_
 refine qA (qD (v := .int .i64 _) rfl) ?_
 refine qA (qJ (v := .bool _) rfl) ?_
 refine wO rfl (rfl) ?_
 refine qP ?_
 refine qC rfl ?_
 refine qA (qD (v := .int .i64 _) rfl) ?_
 refine qA (qX rfl (by omega)) ?_
 refine qA (qF (v := .int .i64 _) rfl) ?_
 refine zK ?_
 refine qE ?_
 refine qE ?_
 refine qC rfl ?_
 refine qA (qD (v := .int .i64 _) rfl) ?_
 refine qA (qD (v := .slice _ _ _) rfl) ?_
 refine qA (wP rfl rfl) ?_
 refine qA (qJ (v := .bool _) rfl) ?_
 refine wY rfl (rfl) ?_
 refine qP ?_
 refine qE ?_
 refine qT ?_
 refine qE ?_
 refine qC rfl ?_
 refine qA (qF (v := .int .i64 _) rfl) ?_
 refine qE ?_
 refine qE ?_
 refine qC rfl ?_
 refine qA (qD (v := .int .i64 _) rfl) ?_
 refine qA (qJ (v := .bool _) rfl) ?_
 refine qA (qD (v := .bool _) rfl) ?_
 refine qG rfl rfl ?_
 refine qA (qD (v := .int .i64 _) rfl) ?_
 refine qG rfl rfl ?_
 refine qA (qJ (v := .bool _) rfl) ?_
 refine qA (wI rfl rfl (v := .bool _) rfl) ?_
 refine qA (qD (v := .bool _) rfl) ?_
 refine qG rfl rfl ?_
 refine qA (qD (v := .int .i64 _) rfl) ?_
 refine qG rfl rfl ?_
 refine qA (qJ (v := .bool _) rfl) ?_
 refine qA (wI rfl rfl (v := .bool _) rfl) ?_
 refine wO rfl (rfl) ?_
 refine qP ?_
 refine qE ?_
 refine qC rfl ?_
 refine qA (qD (v := .slice _ _ _) rfl) ?_
 refine qA (qD (v := .int .i64 _) rfl) ?_
 refine qA (zJ (m := 1) rfl rfl rfl rfl (by decide) (by decide)) ?_
 refine wT (v := .int .i64 _) rfl rfl ((CV.ext (zL (zL (zL (zL (zL (zL (zL G11 E31) G12) E32) G13) E33) G14) E34)) 10 _ rfl) ?_
 refine qA (qD (v := .int .i64 _) rfl) ?_
 refine qA (qJ (v := .bool _) rfl) ?_
 refine wO rfl (rfl) ?_
 refine qP ?_
 refine qC rfl ?_
 refine qA (qD (v := .int .i64 _) rfl) ?_
 refine qA (qX rfl (by omega)) ?_
 refine qA (qF (v := .int .i64 _) rfl) ?_
 refine zK ?_
 refine qE ?_
 refine qE ?_
 refine qC rfl ?_
 refine qA (qD (v := .int .i64 _) rfl) ?_
 refine qA (qD (v := .slice _ _ _) rfl) ?_
 refine qA (wP rfl rfl) ?_
 refine qA (qJ (v := .bool _) rfl) ?_
 refine wY rfl (rfl) ?_
 refine qP ?_
 refine qE ?_
 refine qT ?_
 refine qE ?_
 refine qC rfl ?_
 refine qA (qF (v := .int .i64 _) rfl) ?_
 refine qE ?_
 refine qE ?_
 refine qC rfl ?_
 refine qA (qD (v := .int .i64 _) rfl) ?_
 refine qA (qJ (v := .bool _) rfl) ?_
 refine qA (qD (v := .bool _) rfl) ?_
 refine qG rfl rfl ?_
 refine qA (qD (v := .int .i64 _) rfl) ?_
 refine qG rfl rfl ?_
 refine qA (qJ (v := .bool _) rfl) ?_
 refine qA (wI rfl rfl (v := .bool _) rfl) ?_
 refine qA (qD (v := .bool _) rfl) ?_
 refine qG rfl rfl ?_
 refine qA (qD (v := .int .i64 _) rfl) ?_
 refine qG rfl rfl ?_
 refine qA (qJ (v := .bool _) rfl) ?_
 refine qA (wI rfl rfl (v := .bool _) rfl) ?_
 refine wO rfl (rfl) ?_
 refine qP ?_
 refine qE ?_
 refine qC rfl ?_
 refine qA (qD (v := .slice _ _ _) rfl) ?_
 refine qA (qD (v := .int .i64 _) rfl) ?_
 refine qA (zJ (m := 1) rfl rfl rfl rfl (by decide) (by decide)) ?_
 refine wT (v := .int .i64 _) rfl rfl ((CV.ext (zL (zL (zL (zL (zL (zL (zL G11 E31) G12) E32) G13) E33) G14) E34)) 11 _ rfl) ?_
 refine qA (qD (v := .int .i64 _) rfl) ?_
 refine qA (qJ (v := .bool _) rfl) ?_
 refine wO rfl (rfl) ?_
 refine qP ?_
 refine qC rfl ?_
 refine qA (qD (v := .int .i64 _) rfl) ?_
 refine qA (qX rfl (by omega)) ?_
 refine qA (qF (v := .int .i64 _) rfl) ?_
 refine zK ?_
 refine qE ?_
 refine qE ?_
 refine qC rfl ?_
 refine qA (qD (v := .int .i64 _) rfl) ?_
 refine qA (qD (v := .slice _ _ _) rfl) ?_
 refine qA (wP rfl rfl) ?_
 refine qA (qJ (v := .bool _) rfl) ?_
 refine wY rfl (rfl) ?_
 refine qP ?_
 refine qE ?_
 refine qT ?_
 refine qE ?_
 refine qC rfl ?_
 refine qA (qF (v := .int .i64 _) rfl) ?_
 refine qE ?_
 refine qE ?_
 refine qC rfl ?_
 refine qA (qD (v := .int .i64 _) rfl) ?_
 refine qA (qJ (v := .bool _) rfl) ?_
 refine qA (qD (v := .bool _) rfl) ?_
 refine qG rfl rfl ?_
 refine qA (qD (v := .int .i64 _) rfl) ?_
 refine qG rfl rfl ?_
 refine qA (qJ (v := .bool _) rfl) ?_
 refine qA (wI rfl rfl (v := .bool _) rfl) ?_
 refine qA (qD (v := .bool _) rfl) ?_
 refine qG rfl rfl ?_
 refine qA (qD (v := .int .i64 _) rfl) ?_
 refine qG rfl rfl ?_
 refine qA (qJ (v := .bool _) rfl) ?_
 refine qA (wI rfl rfl (v := .bool _) rfl) ?_
 refine wO rfl (rfl) ?_
 refine qP ?_
 refine qE ?_
 refine qC rfl ?_
 refine qA (qD (v := .slice _ _ _) rfl) ?_
 refine qA (qD (v := .int .i64 _) rfl) ?_
 refine qA (zJ (m := 1) rfl rfl rfl rfl (by decide) (by decide)) ?_
 refine wT (v := .int .i64 _) rfl rfl ((CV.ext (zL (zL (zL (zL (zL (zL (zL G11 E31) G12) E32) G13) E33) G14) E34)) 12 _ rfl) ?_
 refine qA (qD (v := .int .i64 _) rfl) ?_
 refine qA (qJ (v := .bool _) rfl) ?_
 refine wO rfl (rfl) ?_
 refine qP ?_
 refine qC rfl ?_
 refine qA (qD (v := .int .i64 _) rfl) ?_
 refine qA (qX rfl (by omega)) ?_
 refine qA (qF (v := .int .i64 _) rfl) ?_
 refine zK ?_
 refine qE ?_
 refine qE ?_
 refine qC rfl ?_
 refine qA (qD (v := .int .i64 _) rfl) ?_
 refine qA (qD (v := .slice _ _ _) rfl) ?_
 refine qA (wP rfl rfl) ?_
 refine qA (qJ (v := .bool _) rfl) ?_
 refine wY rfl (rfl) ?_
 refine qP ?_
 refine qE ?_
 refine qT ?_
 refine qE ?_
 refine qC rfl ?_
 refine qA (qF (v := .int .i64 _) rfl) ?_
 refine qE ?_
 refine qE ?_
 refine qC rfl ?_
 refine qA (qD (v := .int .i64 _) rfl) ?_
 refine qA (qJ (v := .bool _) rfl) ?_
 refine qA (qD (v := .bool _) rfl) ?_
 refine qG rfl rfl ?_
 refine qA (qD (v := .int .i64 _) rfl) ?_
 refine qG rfl rfl ?_
 refine qA (qJ (v := .bool _) rfl) ?_
 refine qA (wI rfl rfl (v := .bool _) rfl) ?_
 refine qA (qD (v := .bool _) rfl) ?_
 refine qG rfl rfl ?_
 refine qA (qD (v := .int .i64 _) rfl) ?_
 refine qG rfl rfl ?_
 refine qA (qJ (v := .bool _) rfl) ?_
 refine qA (wI rfl rfl (v := .bool _) rfl) ?_
 refine wO rfl (rfl) ?_
 refine qP ?_
 refine qE ?_
 refine qC rfl ?_
 refine qA (qD (v := .slice _ _ _) rfl) ?_
 refine qA (qD (v := .int .i64 _) rfl) ?_
 refine qA (zJ (m := 1) rfl rfl rfl rfl (by decide) (by decide)) ?_
 refine wT (v := .int .i64 _) rfl rfl ((CV.ext (zL (zL (zL (zL (zL (zL (zL G11 E31) G12) E32) G13) E33) G14) E34)) 13 _ rfl) ?_
 refine qA (qD (v := .int .i64 _) rfl) ?_
 refine qA (qJ (v := .bool _) rfl) ?_
 refine wO rfl (rfl) ?_
 refine qP ?_
 refine qC rfl ?_
 refine qA (qD (v := .int .i64 _) rfl) ?_
 refine qA (qX rfl (by omega)) ?_
 refine qA (qF (v := .int .i64 _) rfl) ?_
 refine zK ?_
 refine qE ?_
 refine qE ?_
 refine qC rfl ?_
 refine qA (qD (v := .int .i64 _) rfl) ?_
 refine qA (qD (v := .slice _ _ _) rfl) ?_
 refine qA (wP rfl rfl) ?_
 refine qA (qJ (v := .bool _) rfl) ?_
 refine wO rfl (rfl) ?_
 refine zA ?_
 refine qE ?_
 refine qC rfl ?_
 refine qA (qF (v := .bool _) rfl) ?_
 refine wD ?_
 refine qS (vs := [_]) Tryd.results17 ⟨qM rfl rfl, trivial⟩ fun V => ?_
 exact ⟨(zL (zL (zL (zL (zL (zL (zL (zL (zL (zL (zL (zL (zL (zL (zL (zL (zL (zL (zL (zL (zL (zL (zL (zL (zL (zL (zL (zL (zL (zL (zL (zL (zL (zL (zL (zL (zL (zL (zL (zL (zL (zL (zL (zL (zL (zL (zL (zL E1 E2) E3) E4) E5) G1) G2) E6) E7) E8) G3) G4) E9) E10) G5) E11) G6) E12) E13) G7) E14) E15) E16) G8) E17) E18) E19) G9) E20) E21) E22) G10) E23) E24) E25) E26) E27) E28) E29) E30) G11) E31) G12) E32) G13) E33) G14) E34) (qZ V)), rfl⟩
end
end Go.Proofs.YtmpahfdiebhdbaaDoor
