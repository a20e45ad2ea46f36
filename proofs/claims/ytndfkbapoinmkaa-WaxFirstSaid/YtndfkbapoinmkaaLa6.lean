/- An own logic over the model, its walks and its plain laws, joined of parts Tu W62 W63 W64 W65 W44 W45 W66 Ub W67 W68 W69 W70 W71 W72 W73. Conditions: as each theorem states. -/
import Derived.Test.YtndfkbapoinmkaaLa5
import Derived.Test.YtndfkbapoinmkaaLa4
import Derived.Test.YtndfkbapoinmkaaRows
import Derived.Deep.Slices
import Derived.ProofKit
set_option linter.all false
/- Plain: least and greatest weeks, and what comes first, as the reference reckons it. Conditions: as each theorem states. -/
namespace Go.Proofs.Ytndfkbapoinmkaa
open Go Go.HL Go.Proofs Go.Wx
theorem fmin_iff {α : Type} (g : α → Int) : ∀ (l : List α) (m z : Int), z ≤ l.foldl (fun m x => min m (g x)) m ↔ z ≤ m ∧ ∀ x ∈ l, z ≤ g x
  | [], m, z => by simp
  | x :: l, m, z => by
    rw [List.foldl_cons, fmin_iff g l]
    simp only [List.mem_cons, forall_eq_or_imp]
    constructor
    · rintro ⟨h1, h2⟩; exact ⟨by omega, by omega, h2⟩
    · rintro ⟨h1, h2, h3⟩; exact ⟨by omega, h3⟩
theorem fmax_iff {α : Type} (g : α → Int) : ∀ (l : List α) (m z : Int), l.foldl (fun m x => max m (g x)) m ≤ z ↔ m ≤ z ∧ ∀ x ∈ l, g x ≤ z
  | [], m, z => by simp
  | x :: l, m, z => by
    rw [List.foldl_cons, fmax_iff g l]
    simp only [List.mem_cons, forall_eq_or_imp]
    constructor
    · rintro ⟨h1, h2⟩; exact ⟨by omega, by omega, h2⟩
    · rintro ⟨h1, h2, h3⟩; exact ⟨by omega, h3⟩
/-- The least and the greatest week of failures. -/
def fLo (l : List Fl) (k : Nat) : Int := (l.take k).foldl (fun m y => min m (y.week : Int)) ((l.headD default).week : Int)
def fHi (l : List Fl) (k : Nat) : Int := (l.take k).foldl (fun m y => max m (y.week : Int)) ((l.headD default).week : Int)
theorem fLo_succ {l : List Fl} {k : Nat} (h : k < l.length) : fLo l (k + 1) = min (fLo l k) (l[k].week : Int) := by
  unfold fLo; rw [take_snoc h, List.foldl_append]; rfl
theorem fHi_succ {l : List Fl} {k : Nat} (h : k < l.length) : fHi l (k + 1) = max (fHi l k) (l[k].week : Int) := by
  unfold fHi; rw [take_snoc h, List.foldl_append]; rfl
def fR (l : List Fl) : Rg := ⟨fLo l l.length, fHi l l.length⟩
theorem fLo_iff {l : List Fl} (h : l ≠ []) (z : Int) : z ≤ (fR l).mn ↔ ∀ y ∈ l, z ≤ (y.week : Int) := by
  cases l with
  | nil => exact absurd rfl h
  | cons a l =>
    unfold fR fLo
    dsimp only
    rw [List.take_length, fmin_iff (fun y : Fl => (y.week : Int))]
    exact ⟨fun h => h.2, fun h => ⟨h a (List.mem_cons_self ..), h⟩⟩
theorem fHi_iff {l : List Fl} (h : l ≠ []) (z : Int) : (fR l).mx ≤ z ↔ ∀ y ∈ l, (y.week : Int) ≤ z := by
  cases l with
  | nil => exact absurd rfl h
  | cons a l =>
    unfold fR fHi
    dsimp only
    rw [List.take_length, fmax_iff (fun y : Fl => (y.week : Int))]
    exact ⟨fun h => h.2, fun h => ⟨h a (List.mem_cons_self ..), h⟩⟩
section
variable {l : List Fl} (h0 : l ≠ []) (h6 : ∀ y ∈ l, y.week ≤ 6)
include h0 h6
theorem mask_list : listM (maskM l) ≠ [] := listM_ne (fun e => h0 ((maskM_zero l).1 e)) (maskM_lt h6)
theorem mask_mem {z : Int} : z ∈ listM (maskM l) ↔ ∃ y ∈ l, z = (y.week : Int) := by
  rw [mem_listN]
  constructor
  · rintro ⟨i, rfl, _, hb⟩
    obtain ⟨y, hy, e⟩ := (maskM_bit i l).1 hb
    exact ⟨y, hy, by omega⟩
  · rintro ⟨y, hy, rfl⟩
    have := h6 y hy
    exact ⟨y.week, rfl, by omega, (maskM_bit y.week l).2 ⟨y, hy, rfl⟩⟩
theorem mask_head : (listM (maskM l)).headD 0 = (fR l).mn := by
  have hne := mask_list h0 h6
  have hm : (listM (maskM l)).headD 0 ∈ listM (maskM l) := by cases e : listM (maskM l) with | nil => exact absurd e hne | cons a l => exact List.mem_cons_self ..
  apply Int.le_antisymm
  · exact (fLo_iff h0 _).2 fun y hy => head_le_mem ((mask_mem h0 h6).2 ⟨y, hy, rfl⟩)
  · obtain ⟨y, hy, e⟩ := (mask_mem h0 h6).1 hm
    rw [e]
    exact (fLo_iff h0 _).1 (Int.le_refl _) y hy
theorem mask_last : (listM (maskM l)).getLastD 0 = (fR l).mx := by
  have hne := mask_list h0 h6
  have hm : (listM (maskM l)).getLastD 0 ∈ listM (maskM l) := by rw [List.getLastD_eq_getLast?, List.getLast?_eq_some_getLast hne]; exact List.getLast_mem hne
  apply Int.le_antisymm
  · obtain ⟨y, hy, e⟩ := (mask_mem h0 h6).1 hm
    rw [e]
    exact (fHi_iff h0 _).1 (Int.le_refl _) y hy
  · exact (fHi_iff h0 _).2 fun y hy => mem_le_last ((mask_mem h0 h6).2 ⟨y, hy, rfl⟩)
theorem mn_mem : (fR l).mn ∈ listM (maskM l) := by
  rw [← mask_head h0 h6]
  cases e : listM (maskM l) with | nil => exact absurd e (mask_list h0 h6) | cons a l => exact List.mem_cons_self ..
theorem mx_mem : (fR l).mx ∈ listM (maskM l) := by
  rw [← mask_last h0 h6, List.getLastD_eq_getLast?, List.getLast?_eq_some_getLast (mask_list h0 h6)]
  exact List.getLast_mem _
theorem mn_le {z : Int} (h : z ∈ listM (maskM l)) : (fR l).mn ≤ z := by rw [← mask_head h0 h6]; exact head_le_mem h
theorem le_mx {z : Int} (h : z ∈ listM (maskM l)) : z ≤ (fR l).mx := by rw [← mask_last h0 h6]; exact mem_le_last h
end
/-- The failures of a joint with a weather for each kind. -/
def jlL (s : Season) (x y : List Int) (i : Nat) : List Fl := if kindAt s i = 2 then surv s 2 (skyOf y) i else surv s 1 (skyOf x) i
def pF (s : Season) (x y : List Int) : Fate := joinF (fateOf s 1 (skyOf x)) (fateOf s 2 (skyOf y))
def weeksL (s : Season) (x y : List Int) : List Rg := (List.range s.joints.length).map fun i => fR (jlL s x y i)
theorem allFates_eq {s : Season} (h1 : (weatherM s 1).length ≤ 6) (h2 : (weatherM s 2).length ≤ 6) : allFates s = (rSk s 1).flatMap fun x => (rSk s 2).map (pF s x) := by
  unfold allFates fatesM fatesK
  rw [← rSk_map h1, ← rSk_map h2, List.flatMap_map, List.flatMap_map]
  simp only [List.map_map]
  rfl
section
variable {s : Season} (SV : SeasonV s) {x y : List Int} (hx : x ∈ rSk s 1) (hy : y ∈ rSk s 2)
include SV
theorem kind12 {i : Nat} (hi : i < s.joints.length) : kindAt s i = 1 ∨ kindAt s i = 2 := by
  rw [kindAt_some (List.getElem?_eq_getElem hi)]
  exact SV.kinds _ (List.getElem_mem hi)
include hx hy
theorem jl_ne {i : Nat} (hi : i < s.joints.length) : jlL s x y i ≠ [] := by
  have key : ∀ (n : Int) (X : Sky), okM s n X = true → kindAt s i = n → surv s n X i ≠ [] := by
    intro n X ho hk
    have h2 := fateM_ne ho hi hk
    exact fun e => h2 ((maskM_zero _).2 e)
  unfold jlL
  rcases kind12 SV hi with h | h
  · rw [if_neg (by rw [h]; decide)]; exact key 1 _ (rSk_ok hx) h
  · rw [if_pos h]; exact key 2 _ (rSk_ok hy) h
omit hx hy in
theorem jl_week {i : Nat} {z : Fl} (h : z ∈ jlL s x y i) : z.week ≤ s.heats.length := by
  unfold jlL at h
  split at h
  · exact surv_week h
  · exact surv_week h
omit hx hy in
theorem pF_at {i : Nat} (hi : i < s.joints.length) : (pF s x y).at i = maskM (jlL s x y i) := by
  have hj3 := SV.b.j3
  unfold pF
  rw [joinF_at, Fate.of_at _ _ _ _ (by omega), Fate.of_at _ _ _ _ (by omega)]
  unfold fateM jlL
  rcases kind12 SV hi with h | h
  · rw [if_neg (by rw [h]; decide), surv_other (n := 2) (by rw [h]; decide)]
    exact Nat.or_zero _
  · rw [if_pos h, surv_other (n := 1) (by rw [h]; decide)]
    exact Nat.zero_or _
theorem jl_bd {i : Nat} (hi : i < s.joints.length) : 0 ≤ (fR (jlL s x y i)).mn ∧ (fR (jlL s x y i)).mn ≤ (fR (jlL s x y i)).mx ∧ (fR (jlL s x y i)).mx ≤ s.heats.length := by
  have hne := jl_ne SV hx hy hi
  obtain ⟨z, hz⟩ := List.exists_mem_of_ne_nil _ hne
  refine ⟨(fLo_iff hne _).2 fun z _ => by omega, ?_, (fHi_iff hne _).2 fun z hz => by have := jl_week SV hz; omega⟩
  have a := (fLo_iff hne _).1 (Int.le_refl _) z hz
  have b := (fHi_iff hne _).1 (Int.le_refl _) z hz
  omega
/-- Whether a joint can be the first one, as far as the first joints go; whether it can be none. -/
def fstP (s : Season) (x y : List Int) (j k : Nat) : Bool := decide ((fR (jlL s x y j)).mn < (s.heats.length : Int)) && (List.range k).all fun o => decide (o = j) || decide ((fR (jlL s x y o)).mx ≥ (fR (jlL s x y j)).mn)
def nonP (s : Season) (x y : List Int) (j k : Nat) : Bool := decide ((fR (jlL s x y j)).mx = (s.heats.length : Int)) || (List.range k).any fun o => !decide (o = j) && decide ((fR (jlL s x y o)).mn < (fR (jlL s x y j)).mx)
omit SV hx hy in
theorem fstP_succ (j k : Nat) : fstP s x y j (k + 1) = (fstP s x y j k && (decide (k = j) || decide ((fR (jlL s x y k)).mx ≥ (fR (jlL s x y j)).mn))) := by
  unfold fstP; rw [List.range_succ, List.all_append]; simp [Bool.and_assoc]
omit SV hx hy in
theorem nonP_succ (j k : Nat) : nonP s x y j (k + 1) = (nonP s x y j k || (!decide (k = j) && decide ((fR (jlL s x y k)).mn < (fR (jlL s x y j)).mx))) := by
  unfold nonP; rw [List.range_succ, List.any_append]; simp [Bool.or_assoc]
omit SV hx hy in
theorem le_lat (f : Fate) (j : Nat) (z : Int) : ∀ n, z ≤ latP s f j n ↔ z ≤ s.heats.length ∧ ∀ i, i < n → i ≠ j → z ≤ (listM (f.at i)).getLastD 0
  | 0 => by simp [latP]
  | n + 1 => by
    unfold latP
    have ih := le_lat f j z n
    split
    · rename_i h
      rw [ih]
      exact ⟨fun ⟨a, b⟩ => ⟨a, fun i hi hne => b i (by omega) hne⟩, fun ⟨a, b⟩ => ⟨a, fun i hi hne => b i (by omega) hne⟩⟩
    · rename_i h
      constructor
      · intro hz
        have h1 := ih.1 (by omega)
        refine ⟨h1.1, fun i hi hne => ?_⟩
        by_cases e : i = n
        · rw [e]; omega
        · exact h1.2 i (by omega) hne
      · rintro ⟨a, b⟩
        have h1 := ih.2 ⟨a, fun i hi hne => b i (by omega) hne⟩
        have h2 := b n (by omega) h
        omega
omit SV hx hy in
theorem le_soon (f : Fate) (j : Nat) (z : Int) : ∀ n, z ≤ soonP s f j n ↔ z ≤ s.heats.length ∧ ∀ i, i < n → i ≠ j → z ≤ (listM (f.at i)).headD 0
  | 0 => by simp [soonP]
  | n + 1 => by
    unfold soonP
    have ih := le_soon f j z n
    split
    · rename_i h
      rw [ih]
      exact ⟨fun ⟨a, b⟩ => ⟨a, fun i hi hne => b i (by omega) hne⟩, fun ⟨a, b⟩ => ⟨a, fun i hi hne => b i (by omega) hne⟩⟩
    · rename_i h
      constructor
      · intro hz
        have h1 := ih.1 (by omega)
        refine ⟨h1.1, fun i hi hne => ?_⟩
        by_cases e : i = n
        · rw [e]; omega
        · exact h1.2 i (by omega) hne
      · rintro ⟨a, b⟩
        have h1 := ih.2 ⟨a, fun i hi hne => b i (by omega) hne⟩
        have h2 := b n (by omega) h
        omega
theorem isF_eq {j : Nat} (hj : j < s.joints.length) : isF s j (pF s x y) = fstP s x y j s.joints.length := by
  have hw6 := SV.b.w6
  have ne : ∀ i, i < s.joints.length → jlL s x y i ≠ [] := fun i hi => jl_ne SV hx hy hi
  have w6 : ∀ i, ∀ z ∈ jlL s x y i, z.week ≤ 6 := fun i z hz => by have := jl_week SV hz; omega
  rw [Bool.eq_iff_iff]
  unfold isF fstP isW
  rw [List.any_eq_true, Bool.and_eq_true, List.all_eq_true, decide_eq_true_eq, pF_at SV hj]
  constructor
  · rintro ⟨w, hw, h⟩
    rw [Bool.and_eq_true, decide_eq_true_eq, decide_eq_true_eq, le_lat] at h
    have h1 := mn_le (ne j hj) (w6 j) hw
    refine ⟨by omega, fun o ho => ?_⟩
    rw [List.mem_range] at ho
    by_cases e : o = j
    · rw [decide_eq_true e]; rfl
    · have h2 := h.2.2 o ho e
      rw [pF_at SV ho, mask_last (ne o ho) (w6 o)] at h2
      rw [decide_eq_true (show (fR (jlL s x y o)).mx ≥ (fR (jlL s x y j)).mn by omega), Bool.or_true]
  · rintro ⟨h1, h2⟩
    refine ⟨_, mn_mem (ne j hj) (w6 j), ?_⟩
    rw [Bool.and_eq_true, decide_eq_true_eq, decide_eq_true_eq, le_lat]
    refine ⟨by omega, by omega, fun i hi hne => ?_⟩
    have h3 := h2 i (List.mem_range.2 hi)
    rw [decide_eq_false hne, Bool.false_or, decide_eq_true_eq] at h3
    rw [pF_at SV hi, mask_last (ne i hi) (w6 i)]
    omega
theorem noF_eq {j : Nat} (hj : j < s.joints.length) : noF s j (pF s x y) = nonP s x y j s.joints.length := by
  have hw6 := SV.b.w6
  have ne : ∀ i, i < s.joints.length → jlL s x y i ≠ [] := fun i hi => jl_ne SV hx hy hi
  have w6 : ∀ i, ∀ z ∈ jlL s x y i, z.week ≤ 6 := fun i z hz => by have := jl_week SV hz; omega
  have hb := jl_bd SV hx hy hj
  rw [Bool.eq_iff_iff]
  unfold noF nonP noW
  rw [List.any_eq_true, Bool.or_eq_true, List.any_eq_true, decide_eq_true_eq, pF_at SV hj]
  constructor
  · rintro ⟨w, hw, h⟩
    rw [Bool.or_eq_true, decide_eq_true_eq, decide_eq_true_eq] at h
    have h1 := le_mx (ne j hj) (w6 j) hw
    by_cases hl : (fR (jlL s x y j)).mx = (s.heats.length : Int)
    · exact .inl hl
    · have hns : ¬ w ≤ soonP s (pF s x y) j s.joints.length := by omega
      rw [le_soon] at hns
      refine .inr (Classical.byContradiction fun hc => hns ⟨by omega, fun i hi hne => ?_⟩)
      rw [pF_at SV hi, mask_head (ne i hi) (w6 i)]
      have : ¬ (fR (jlL s x y i)).mn < (fR (jlL s x y j)).mx := fun hlt => hc ⟨i, List.mem_range.2 hi, by rw [decide_eq_false hne, decide_eq_true hlt]; rfl⟩
      omega
  · intro h
    refine ⟨_, mx_mem (ne j hj) (w6 j), ?_⟩
    rw [Bool.or_eq_true, decide_eq_true_eq, decide_eq_true_eq]
    rcases h with h | ⟨o, ho, h⟩
    · exact .inl (by omega)
    · rw [List.mem_range] at ho
      rw [Bool.and_eq_true, decide_eq_true_eq] at h
      have hne : o ≠ j := by have := h.1; simpa using this
      refine .inr (Int.lt_of_not_ge fun hle => ?_)
      have h2 := ((le_soon (pF s x y) j _ _).1 hle).2 o ho hne
      rw [pF_at SV ho, mask_head (ne o ho) (w6 o)] at h2
      omega
/-- How many joints fail later than a week, at the least and at the most. -/
def lsN (s : Season) (x y : List Int) (w : Int) : Nat → Nat
  | 0 => 0
  | i + 1 => lsN s x y w i + if (fR (jlL s x y i)).mn > w then 1 else 0
def msN (s : Season) (x y : List Int) (w : Int) : Nat → Nat
  | 0 => 0
  | i + 1 => msN s x y w i + if (fR (jlL s x y i)).mx > w then 1 else 0
omit SV hx hy in
theorem lsN_le (w : Int) : ∀ n, lsN s x y w n ≤ n ∧ msN s x y w n ≤ n
  | 0 => ⟨Nat.le_refl _, Nat.le_refl _⟩
  | n + 1 => by
    have := lsN_le w n
    rw [lsN, msN]
    constructor <;> split <;> omega
theorem must_eq {w : Nat} (hw : w < s.heats.length) : ∀ n, n ≤ s.joints.length → mustN (pF s x y) w n = lsN s x y w n ∧ canN (pF s x y) w n = msN s x y w n
  | 0, _ => ⟨rfl, rfl⟩
  | n + 1, h => by
    have hw6 := SV.b.w6
    have ne : jlL s x y n ≠ [] := jl_ne SV hx hy (by omega)
    have w6 : ∀ z ∈ jlL s x y n, z.week ≤ 6 := fun z hz => by have := jl_week SV hz; omega
    obtain ⟨i1, i2⟩ := must_eq hw n (by omega)
    have h0 : maskM (jlL s x y n) ≠ 0 := fun e => ne ((maskM_zero _).1 e)
    have hlt : maskM (jlL s x y n) < 128 := maskM_lt w6
    obtain ⟨e1, e2, _⟩ := list_ends ⟨maskM (jlL s x y n), hlt⟩ ⟨w, by omega⟩ h0
    dsimp only at e1 e2
    rw [mask_head ne w6] at e1
    rw [mask_last ne w6] at e2
    rw [mustN, canN, lsN, msN, i1, i2, pF_at SV (by omega)]
    constructor
    · congr 1
      by_cases hc : uptoM (maskM (jlL s x y n)) w = 0
      · rw [if_pos hc, if_pos]
        have := of_decide_eq_false (e1.symm.trans (decide_eq_false (not_not_intro hc)))
        omega
      · rw [if_neg hc, if_neg]
        have := of_decide_eq_true (e1.symm.trans (decide_eq_true hc))
        omega
    · congr 1
      by_cases hc : maskM (jlL s x y n) = uptoM (maskM (jlL s x y n)) w
      · rw [if_neg (not_not_intro hc), if_neg]
        exact of_decide_eq_false (e2.symm.trans (decide_eq_false (not_not_intro hc)))
      · rw [if_pos hc, if_pos]
        exact of_decide_eq_true (e2.symm.trans (decide_eq_true hc))
end
end Go.Proofs.Ytndfkbapoinmkaa
/- Walks: the weather of a season, and the weeks of joints (the reference). Conditions: as each theorem states. -/
namespace Go.Proofs.Ytndfkbapoinmkaa
open Go Go.HL Go.Proofs Go.Wx
set_option maxRecDepth 100000
end Go.Proofs.Ytndfkbapoinmkaa
/- Walks: the weeks of joints with a weather for each kind (the reference). Conditions: as each theorem states. -/
namespace Go.Proofs.Ytndfkbapoinmkaa
open Go Go.HL Go.Proofs Go.Wx
set_option maxRecDepth 100000
theorem jl_len {s : Season} (SV : SeasonV s) (x y : List Int) (i : Nat) : (jlL s x y i).length ≤ 540 := by
  unfold jlL
  split
  · exact surv_len SV.b.jb
  · exact surv_len SV.b.jb
set_option maxHeartbeats 8000000 in
theorem rWeeksOf_ok (s : Season) (SV : SeasonV s) {x y : List Int} (hx : x ∈ rSk s 1) (hy : y ∈ rSk s 2) (AX AF AY AG : Option Addr) (cX cF cY cG nX nY : Nat) (vF vG : List Value) (A0 A1 A2 A3 : Option Addr) (c0 c1 c2 c3 : Nat) (h : AH) (R : SeasonR h A0 A1 A2 A3 s)
    (RF : Row h 1 fnC AF vF) (LF : RLv (fun h l v => SlR h 4 flR l v) h (recF s 1 x) vF) (RG : Row h 1 fnC AG vG) (LG : RLv (fun h l v => SlR h 4 flR l v) h (recF s 2 y) vG) :
    FnT Try.prog 111 #[seasonV A0 A1 A2 A3 c0 c1 c2 c3 s, .agg #[.slice AX nX cX, .slice AF s.joints.length cF], .agg #[.slice AY nY cY, .slice AG s.joints.length cG]] h (fun v h' => SlR h' 2 rgC (weeksL s x y) v) := by
  have hj3 := SV.b.j3
  have hw6 := SV.b.w6
  have hvF : vF.length = s.joints.length := by rw [LF.1, recF_len]
  have hvG : vG.length = s.joints.length := by rw [LG.1, recF_len]
  refine call_body Try.func111 rfl Try.ntmps111 rfl ?_
  refine goes_more ?_
  refine goes_norm [_] rfl ?_
  refine xp_seq ?_
  refine xp_region rfl ?_
  refine op_box (v := .agg #[.slice _ _ _, .slice _ _ _, .slice _ _ _, .slice _ _ _]) (cs := [_, _, _, _]) rfl rfl fun b3 hb3 => ?_
  refine wp_norm [_, _] rfl ?_
  refine op_box (v := .agg #[.slice _ _ _, .slice _ _ _]) (cs := [_, _]) rfl rfl fun b4 hb4 => ?_
  refine wp_norm [_, _, _] rfl ?_
  refine op_box (v := .agg #[.slice _ _ _, .slice _ _ _]) (cs := [_, _]) rfl rfl fun b5 hb5 => ?_
  refine wp_norm [_, _, _, _] rfl ?_
  refine op_pure (pv_assign (v := .slice _ _ _) rfl) ?_
  refine xp_seq ?_
  refine xp_region rfl ?_
  refine op_pure (pv_assign (v := .slice _ _ _) rfl) ?_
  refine xp_seq ?_
  refine xp_seq ?_
  refine xp_region rfl ?_
  refine op_pure (pv_assign (v := .int .i64 _) rfl) ?_
  refine xp_block ?_
  refine xp_loopL [7, 8, 9, 10, 11, 12, 13, 14, 15, 16, 17, 18, 19, 20, 21, 22, 23, 24, 25, 26, 27, 28, 29, 30, 31, 32, 33, 34, 35, 36, 37, 38, 39, 40, 41, 42, 43, 44, 45, 46, 47, 48, 49, 50, 51, 52, 53, 54, 55, 56, 57, 58, 59, 60, 61, 62, 63, 64, 65, 66, 67, 68, 69, 70, 71] 4 (α := Nat × Acc) (fun ⟨j, a⟩ => [(7, .slice a.A a.n a.c), (8, .int .i64 j)]) (fun ⟨j, a⟩ L => L.set 0 (a.p)) (fun ⟨j, a⟩ h_j => j ≤ s.joints.length ∧ AccR 51 2 (((List.range j).map fun i => fR (jlL s x y i)).flatMap rgC) a) (fun ⟨j, a⟩ => s.joints.length - j) ((0, acc0)) ⟨rfl, rfl, trivial⟩ (rfl) (⟨Nat.zero_le _, accR0⟩) ?_
  rintro ⟨j, a⟩ T1 h_j E_j J_j
  refine goes_norm [_, _, _, _] rfl ?_
  obtain ⟨K1, K2⟩ := J_j
  refine xp_seq ?_
  refine xp_seq ?_
  refine xp_region rfl ?_
  refine op_pure (pv_move (v := .int .i64 _) rfl) ?_
  refine op_pure (pv_fieldAddr rfl rfl rfl rfl 2 rfl) ?_
  refine op_loadP 1 (v := .slice _ _ _) rfl rfl rfl rfl ?_
  refine op_pure (pv_len rfl rfl) ?_
  refine op_pure (pv_of (v := .bool _) rfl) ?_
  refine xp_cond rfl (fun hj => ?_) (fun hj => ?_)
  · skip
    have hjl : j < s.joints.length := ltI hj
    have hat : s.joints[j]? = some s.joints[j] := List.getElem?_eq_getElem hjl
    obtain ⟨gJ, oJ, hBJ, hcJ⟩ := (R.joints.ext E_j).at (by omega) hjl
    obtain ⟨gF, oF, hFA, hcF⟩ := (RF.ext E_j).at (by omega) (show j < vF.length by omega)
    obtain ⟨A1', c1', e1', R1'⟩ := LF.2 j _ _ (recF_get hjl) (List.getElem?_eq_getElem (show j < vF.length by omega))
    obtain ⟨gG, oG, hGA, hcG⟩ := (RG.ext E_j).at (by omega) (show j < vG.length by omega)
    obtain ⟨A2', c2', e2', R2'⟩ := LG.2 j _ _ (recF_get hjl) (List.getElem?_eq_getElem (show j < vG.length by omega))
    have hkn := kind12 SV hjl
    have hka : kindAt s j = s.joints[j].kind := kindAt_some hat
    refine xp_skip ?_
    refine xp_seq ?_
    refine xp_block ?_
    refine xp_seq ?_
    refine xp_region rfl ?_
    refine op_pure (pv_fieldAddr rfl rfl rfl rfl 1 rfl) ?_
    refine op_loadP 2 (v := .slice _ _ _) rfl rfl rfl rfl ?_
    refine op_pure (pv_move (v := .int .i64 _) rfl) ?_
    refine op_pure (pv_indexE rfl hFA rfl rfl rfl (by omega) (by omega)) ?_
    refine op_load (v := .slice A1' (surv s 1 (skyOf x) j).length c1') rfl rfl (hcF 0 _ (by rw [e1']; rfl)) ?_
    refine op_pure (pv_assign (v := .slice _ _ _) rfl) ?_
    refine xp_cutB [9, 24, 25, 26, 27, 28, 29, 30, 31, 32, 33, 34, 35] 4 (α := Option Addr × Nat) (fun ⟨lA, lc⟩ => [(9, .slice lA (jlL s x y j).length lc)]) (fun ⟨lA, lc⟩ L => L) (fun ⟨lA, lc⟩ h_lA => Row h_lA 4 flR lA (jlL s x y j)) ?_ ?_
    · skip
      refine xp_seq ?_
      refine xp_region rfl ?_
      refine op_pure (pv_fieldAddr rfl rfl rfl rfl 2 rfl) ?_
      refine op_loadP 1 (v := .slice _ _ _) rfl rfl rfl rfl ?_
      refine op_pure (pv_move (v := .int .i64 _) rfl) ?_
      refine op_pure (pv_indexE rfl hBJ rfl rfl rfl (by omega) (by omega)) ?_
      refine op_pure (pv_fieldAddr rfl rfl rfl rfl _ rfl) ?_
      refine op_load (v := .int .i64 _) rfl rfl ((hcJ) 0 _ rfl) ?_
      refine op_pure (pv_of (v := .bool _) rfl) ?_
      refine xp_cond rfl (fun hk => ?_) (fun hk => ?_)
      · skip
        have hk2 : kindAt s j = 2 := by rw [hka]; exact of_decide_eq_true hk
        have hjl2 : jlL s x y j = surv s 2 (skyOf y) j := by unfold jlL; rw [if_pos hk2]
        refine xp_region rfl ?_
        refine op_pure (pv_fieldAddr rfl rfl rfl rfl 1 rfl) ?_
        refine op_loadP 3 (v := .slice _ _ _) rfl rfl rfl rfl ?_
        refine op_pure (pv_move (v := .int .i64 _) rfl) ?_
        refine op_pure (pv_indexE rfl hGA rfl rfl rfl (by omega) (by omega)) ?_
        refine op_load (v := .slice A2' (surv s 2 (skyOf y) j).length c2') rfl rfl (hcG 0 _ (by rw [e2']; rfl)) ?_
        refine op_pure (pv_assign (v := .slice _ _ _) rfl) ?_
        refine ⟨(A2', c2'), ⟨(by rw [hjl2]; rfl), trivial⟩, rfl, rfl, (Ext.refl _), fun h3 E3 => (by rw [hjl2]; exact R2'.ext (Ext.trans E_j E3)), ?_⟩
        repeat (first | exact off_refl _ _ | exact off_base _ _ _ | refine off_upd (by decide) ?_ | refine off_updL rfl ?_ | refine off_mix rfl ?_)
      · skip
        have hk2 : ¬ kindAt s j = 2 := by rw [hka]; exact of_decide_eq_false hk
        have hjl2 : jlL s x y j = surv s 1 (skyOf x) j := by unfold jlL; rw [if_neg hk2]
        refine xp_skip ?_
        refine ⟨(A1', c1'), ⟨(by rw [hjl2]; rfl), trivial⟩, rfl, rfl, (Ext.refl _), fun h3 E3 => (by rw [hjl2]; exact R1'.ext (Ext.trans E_j E3)), ?_⟩
        repeat (first | exact off_refl _ _ | exact off_base _ _ _ | refine off_upd (by decide) ?_ | refine off_updL rfl ?_ | refine off_mix rfl ?_)
    rintro ⟨lA, lc⟩ T2 h_lA E_lA J_lA
    refine goes_norm [_, _, _, _] rfl ?_
    have hne := jl_ne SV hx hy hjl
    have hll := jl_len SV x y j
    have hfw : ∀ z ∈ jlL s x y j, z.week ≤ 6 := fun z hz => by have := jl_week SV hz; omega
    obtain ⟨l, el⟩ : ∃ l, l = jlL s x y j := ⟨_, rfl⟩
    rw [← el] at hne hll hfw J_lA ⊢
    have hpos : 0 < l.length := List.length_pos_iff.2 hne
    have hhd : l.headD default = l[0] := by simp [List.headD_eq_head?_getD, List.head?_eq_getElem?, List.getElem?_eq_getElem hpos]
    obtain ⟨g0, o0, hB0, hc00⟩ := J_lA.at (by omega) hpos
    have hld0 := hc00 0 (.int .i64 l[0].week) rfl
    refine xp_seq ?_
    refine xp_dw [] rfl rfl rfl ?_
    refine dw_pure (i := 0) rfl (by decide +kernel) (pv_move (v := .slice _ _ _) rfl) ?_
    refine dw_pure (i := 1) rfl (by decide +kernel) (pv_indexE rfl hB0 rfl rfl rfl (by omega) (by omega)) ?_
    refine dw_pure (i := 2) rfl (by decide +kernel) (pv_fieldAddr rfl rfl rfl rfl _ rfl) ?_
    refine dw_load (i := 3) rfl (by decide +kernel) ?_
    refine op_load (v := .int .i64 l[0].week) rfl rfl hld0 ?_
    refine dw_pure (i := 4) rfl (by decide +kernel) (pv_move (v := .slice _ _ _) rfl) ?_
    refine dw_pure (i := 5) rfl (by decide +kernel) (pv_indexE rfl hB0 rfl rfl rfl (by omega) (by omega)) ?_
    refine dw_pure (i := 6) rfl (by decide +kernel) (pv_fieldAddr rfl rfl rfl rfl _ rfl) ?_
    refine dw_load (i := 7) rfl (by decide +kernel) ?_
    refine op_load (v := .int .i64 l[0].week) rfl rfl hld0 ?_
    refine dw_pure (i := 8) rfl (by decide +kernel) (pv_build (zc := [_, _]) (vs := [(0, .int .i64 _), (1, .int .i64 _)]) (cs := [_, _]) rfl rfl rfl rfl rfl rfl) ?_
    refine dw_eff (i := 9) rfl (by decide +kernel) ?_
    refine op_alloc (cs := [_, _]) rfl rfl fun b10 hb10 => ?_
    refine ⟨ext_new hb10 _, ?_⟩
    refine dw_norm [_, _, _, _, _] rfl ?_
    refine dw_last (i := 10) rfl (by decide +kernel) (by decide +kernel) ?_
    refine op_storeP 4 (v := .agg #[.int .i64 _, .int .i64 _]) (vs := [_, _]) (c' := [_, _]) rfl rfl rfl rfl rfl rfl rfl rfl rfl ?_
    refine dw_norm [_, _, _, _, _] rfl ?_
    refine dw_end rfl ?_
    refine xp_seq ?_
    refine xp_seq ?_
    refine xp_region rfl ?_
    refine op_pure (pv_assign (v := .int .i64 _) rfl) ?_
    refine xp_block ?_
    refine xp_loopL [11, 45, 46, 47, 48, 49, 50, 51, 52, 53, 54, 55, 56, 57, 58, 59, 60, 61, 62, 63, 64, 65, 66, 67] 5 (α := Nat) (fun k => [(11, .int .i64 k)]) (fun k L => L.set 4 (some (b10, .cells #[.int .i64 (fLo l k), .int .i64 (fHi l k)] 51 (0, 0)))) (fun k h_k => k ≤ l.length) (fun k => l.length - k) (0) ⟨rfl, trivial⟩ (by rw [fLo, fHi, hhd]; rfl) (Nat.zero_le _) ?_
    rintro k T3 h_k E_k J_k
    refine goes_norm [_, _, _, _, _] rfl ?_
    refine xp_seq ?_
    refine xp_seq ?_
    refine xp_region rfl ?_
    refine op_pure (pv_move (v := .int .i64 _) rfl) ?_
    refine op_pure (pv_move (v := .slice _ _ _) rfl) ?_
    refine op_pure (pv_len rfl rfl) ?_
    refine op_pure (pv_of (v := .bool _) rfl) ?_
    refine xp_cond rfl (fun hk3 => ?_) (fun hk3 => ?_)
    · skip
      have hkl : k < l.length := ltI hk3
      obtain ⟨g1, o1, hB1, hc1⟩ := (J_lA.ext E_k).at (by omega) hkl
      have hld1 := hc1 0 (.int .i64 l[k].week) rfl
      have hkw := hfw _ (List.getElem_mem hkl)
      refine xp_skip ?_
      refine xp_seq ?_
      refine xp_block ?_
      refine xp_dw [] rfl rfl rfl ?_
      refine dw_pure (i := 0) rfl (by decide +kernel) (pv_fieldAddr rfl rfl rfl rfl 0 rfl) ?_
      refine dw_load (i := 1) rfl (by decide +kernel) ?_
      refine op_loadP 4 (v := .int .i64 _) rfl rfl rfl rfl ?_
      refine dw_pure (i := 2) rfl (by decide +kernel) (pv_move (v := .slice _ _ _) rfl) ?_
      refine dw_pure (i := 3) rfl (by decide +kernel) (pv_move (v := .int .i64 _) rfl) ?_
      refine dw_pure (i := 4) rfl (by decide +kernel) (pv_indexE rfl hB1 rfl rfl rfl (by omega) (by omega)) ?_
      refine dw_pure (i := 5) rfl (by decide +kernel) (pv_fieldAddr rfl rfl rfl rfl _ rfl) ?_
      refine dw_load (i := 6) rfl (by decide +kernel) ?_
      refine op_load (v := .int .i64 l[k].week) rfl rfl hld1 ?_
      refine dw_pure (i := 7) rfl (by decide +kernel) (pv_min rfl rfl) ?_
      refine dw_pure (i := 8) rfl (by decide +kernel) (pv_fieldAddr rfl rfl rfl rfl 1 rfl) ?_
      refine dw_load (i := 9) rfl (by decide +kernel) ?_
      refine op_loadP 4 (v := .int .i64 _) rfl rfl rfl rfl ?_
      refine dw_pure (i := 10) rfl (by decide +kernel) (pv_move (v := .slice _ _ _) rfl) ?_
      refine dw_pure (i := 11) rfl (by decide +kernel) (pv_move (v := .int .i64 _) rfl) ?_
      refine dw_pure (i := 12) rfl (by decide +kernel) (pv_indexE rfl hB1 rfl rfl rfl (by omega) (by omega)) ?_
      refine dw_pure (i := 13) rfl (by decide +kernel) (pv_fieldAddr rfl rfl rfl rfl _ rfl) ?_
      refine dw_load (i := 14) rfl (by decide +kernel) ?_
      refine op_load (v := .int .i64 l[k].week) rfl rfl hld1 ?_
      refine dw_pure (i := 15) rfl (by decide +kernel) (pv_max rfl rfl) ?_
      refine dw_pure (i := 16) rfl (by decide +kernel) (pv_build (zc := [_, _]) (vs := [(0, .int .i64 _), (1, .int .i64 _)]) (cs := [_, _]) rfl rfl rfl rfl rfl rfl) ?_
      refine dw_last (i := 17) rfl (by decide +kernel) (by decide +kernel) ?_
      refine op_storeP 4 (v := .agg #[.int .i64 _, .int .i64 _]) (vs := [_, _]) (c' := [_, _]) rfl rfl rfl rfl rfl rfl rfl rfl rfl ?_
      refine dw_norm [_, _, _, _, _] rfl ?_
      refine dw_end rfl ?_
      refine xp_region rfl ?_
      refine op_pure (pv_move (v := .int .i64 _) rfl) ?_
      refine op_pure (pv_arith rfl (by omega)) ?_
      refine op_pure (pv_assign (v := .int .i64 _) rfl) ?_
      refine ⟨k + 1, ⟨rfl, trivial⟩, rfl, by rw [fLo_succ hkl, fHi_succ hkl]; rfl, E_k, fun h3 E3 => hkl, by first | omega | (dsimp only; omega), ?_⟩
      repeat (first | exact off_base _ _ _ | refine off_upd (by decide) ?_ | refine off_updL rfl ?_ | refine off_mix rfl ?_)
    · skip
      have hke : k = l.length := by have := geI hk3; omega
      subst hke
      refine xp_exit ?_
      refine xp_region rfl ?_
      refine op_pure (pv_move (v := .slice _ _ _) rfl) ?_
      refine op_loadPA 4 (vs := [.int .i64 _, .int .i64 _]) rfl rfl rfl rfl rfl ?_
      refine op_buildSlice (zc := [_, _]) (vs := [(0, .agg #[.int .i64 _, .int .i64 _])]) (cs := [_, _]) rfl rfl rfl rfl rfl rfl rfl fun b70 hb70 => ?_
      refine wp_norm [_, _, _, _, _, _] rfl ?_
      refine op_appendR 0 K2 rfl rfl rfl (fun V => rdP V (i := 5) rfl) rfl rfl rfl rfl rfl rfl rfl rfl rfl (by omega) rfl (by rw [flat_len (m := 2) (fun _ _ => rfl)]; simp; omega) fun a2 h4a E4a ha2 => ?_
      refine wp_norm [_, _, _, _, _, _] rfl ?_
      refine op_pure (pv_assign (v := .slice _ _ _) rfl) ?_
      refine xp_region rfl ?_
      refine op_pure (pv_move (v := .int .i64 _) rfl) ?_
      refine op_pure (pv_arith rfl (by omega)) ?_
      refine op_pure (pv_assign (v := .int .i64 _) rfl) ?_
      refine ⟨(j + 1, a2), ⟨rfl, rfl, trivial⟩, rfl, rfl, (Ext.trans (Ext.trans (Ext.trans E_j E_lA) E_k) E4a), fun h3 E3 => ⟨hjl, by rw [List.range_succ, List.map_append, List.flatMap_append]; simp only [List.map_cons, List.map_nil]; rw [← el]; exact ha2⟩, by first | omega | (dsimp only; omega), ?_⟩
      repeat (first | exact off_base _ _ _ | refine off_upd (by decide) ?_ | refine off_updL rfl ?_ | refine off_mix rfl ?_)
  · skip
    have hje : j = s.joints.length := by have := geI hj; omega
    subst hje
    obtain ⟨pO, AO, nO, cO⟩ := a
    obtain rfl : nO = (weeksL s x y).length := by have := AccR.len K2; rw [flat_len (m := 2) (fun _ _ => rfl)] at this; dsimp only [weeksL] at *; omega
    dsimp only
    refine goes_pubO 0 rfl ?_
    intro gO GO PO
    refine goes_norm [_, _, _, _] rfl ?_
    refine xp_exit ?_
    refine xp_seq ?_
    refine xp_region rfl ?_
    refine op_pure (pv_move (v := .slice _ _ _) rfl) ?_
    refine op_pure (pv_assign (v := .slice _ _ _) rfl) ?_
    refine xp_ret ?_
    refine res_list (vs := [_]) Try.results111 ⟨resV_tmp rfl rfl, trivial⟩ fun V => ?_
    exact ⟨(Ext.trans (Ext.trans E_j GO) (ext_wl V)), AO, cO, rfl, fun _ _ => rfl, (AccR.rd K2 PO).ext (ext_wl V)⟩
end Go.Proofs.Ytndfkbapoinmkaa
/- Walks: which joints can fail first (the reference). Conditions: as each theorem states. -/
namespace Go.Proofs.Ytndfkbapoinmkaa
open Go Go.HL Go.Proofs Go.Wx
set_option maxRecDepth 100000
/-- What holds of some pair, as far as a number of rounds goes. -/
def anyP (p : List Int → List Int → Bool) (xs ys : List (List Int)) (i k : Nat) : Bool := ((xs.take i).any fun x => ys.any (p x)) || ((ys.take k).any (p (xs.getD i [])))
theorem anyP_zero (p : List Int → List Int → Bool) (xs ys : List (List Int)) : anyP p xs ys 0 0 = false := by simp [anyP]
theorem anyP_step {p : List Int → List Int → Bool} {xs ys : List (List Int)} {i k : Nat} (h : k < ys.length) : anyP p xs ys i (k + 1) = (anyP p xs ys i k || p (xs.getD i []) ys[k]) := by
  unfold anyP
  rw [take_snoc h, List.any_append, ← Bool.or_assoc]
  simp
theorem anyP_next {p : List Int → List Int → Bool} {xs ys : List (List Int)} {i : Nat} (h : i < xs.length) : anyP p xs ys (i + 1) 0 = anyP p xs ys i ys.length := by
  have hg : xs.getD i [] = xs[i] := by rw [List.getD_eq_getElem?_getD, List.getElem?_eq_getElem h]; rfl
  unfold anyP
  rw [take_snoc h, List.any_append, List.take_length, hg]
  simp
theorem anyP_all (p : List Int → List Int → Bool) (xs ys : List (List Int)) : anyP p xs ys xs.length 0 = xs.any fun x => ys.any (p x) := by
  unfold anyP
  rw [List.take_length]
  simp
theorem fates_any {s : Season} (SV : SeasonV s) (q : Fate → Bool) (p : List Int → List Int → Bool) (h : ∀ x ∈ rSk s 1, ∀ y ∈ rSk s 2, q (pF s x y) = p x y) : (allFates s).any q = (rSk s 1).any fun x => (rSk s 2).any (p x) := by
  have hw6 := SV.b.w6
  rw [allFates_eq (by rw [(SV.b.wb 1).1]; exact hw6) (by rw [(SV.b.wb 2).1]; exact hw6), Bool.eq_iff_iff, List.any_eq_true, List.any_eq_true]
  constructor
  · rintro ⟨f, hf, e⟩
    obtain ⟨x, hx, hf⟩ := List.mem_flatMap.1 hf
    obtain ⟨y, hy, rfl⟩ := List.mem_map.1 hf
    exact ⟨x, hx, List.any_eq_true.2 ⟨y, hy, by rw [← h x hx y hy]; exact e⟩⟩
  · rintro ⟨x, hx, e⟩
    obtain ⟨y, hy, e⟩ := List.any_eq_true.1 e
    exact ⟨pF s x y, List.mem_flatMap.2 ⟨x, hx, List.mem_map.2 ⟨y, hy, rfl⟩⟩, by rw [h x hx y hy]; exact e⟩
theorem first_eq {s : Season} (SV : SeasonV s) {j : Nat} (hj : j < s.joints.length) : firstM s j = verdictM (anyP (fun x y => fstP s x y j s.joints.length) (rSk s 1) (rSk s 2) (rSk s 1).length 0) (anyP (fun x y => nonP s x y j s.joints.length) (rSk s 1) (rSk s 2) (rSk s 1).length 0) := by
  unfold firstM
  rw [anyP_all, anyP_all, fates_any SV _ (fun x y => fstP s x y j s.joints.length) fun x hx y hy => isF_eq SV hx hy hj, fates_any SV _ (fun x y => nonP s x y j s.joints.length) fun x hx y hy => noF_eq SV hx hy hj]
theorem fstP_zero (s : Season) (x y : List Int) (j : Nat) : fstP s x y j 0 = decide ((fR (jlL s x y j)).mn < (s.heats.length : Int)) := by simp [fstP]
theorem nonP_zero (s : Season) (x y : List Int) (j : Nat) : nonP s x y j 0 = decide ((fR (jlL s x y j)).mx = (s.heats.length : Int)) := by simp [nonP]
theorem weeksL_len (s : Season) (x y : List Int) : (weeksL s x y).length = s.joints.length := by simp [weeksL]
theorem weeksL_at {s : Season} {x y : List Int} {j : Nat} (h : j < (weeksL s x y).length) : (weeksL s x y)[j] = fR (jlL s x y j) := by simp [weeksL]
/-- The cells of a record. -/
theorem rec_cells {s : Season} {n : Int} {h h' : AH} {l : List (List Int)} {A : Option Addr} {ps : List (Value × Value)} (RA : Row h 2 prC A ps) (RL : RLv (SkP s n) h l ps) (E : Ext h h') {i : Nat} (hi : i < l.length) :
    ∃ g off AX cX AF cF vF, A = some ⟨g, off, none⟩ ∧ Cells h' g (off + i * 2) [.slice AX l[i].length cX, .slice AF s.joints.length cF] ∧ Row h' 1 fnC AF vF ∧ RLv (fun h l v => SlR h 4 flR l v) h' (recF s n l[i]) vF := by
  have hp : i < ps.length := by rw [RL.1]; exact hi
  obtain ⟨g, off, hA, hc⟩ := (RA.ext E).at (by omega) hp
  obtain ⟨⟨AX, cX, eX, RX⟩, AF, cF, vF, eF, RF, LF⟩ := RL.2 i _ _ (List.getElem?_eq_getElem hi) (List.getElem?_eq_getElem hp)
  rw [recF_len] at eF
  refine ⟨g, off, AX, cX, AF, cF, vF, hA, ?_, RF.ext E, flx LF E⟩
  rw [← eX, ← eF]
  exact hc
set_option maxHeartbeats 8000000 in
theorem rFirst_ok (s : Season) (Sm : Small s) (A0 A1 A2 A3 : Option Addr) (c0 c1 c2 c3 : Nat) (h : AH) (R : SeasonR h A0 A1 A2 A3 s) :
    FnT Try.prog 44 #[seasonV A0 A1 A2 A3 c0 c1 c2 c3 s] h (fun v h' => ∃ w, v = .tuple #[w, .int .i64 (firstE s)] ∧ SlR h' 1 intC (firstL s) w) := by
  refine call_body Try.func44 rfl Try.ntmps44 rfl ?_
  refine goes_more ?_
  refine goes_norm [_] rfl ?_
  refine xp_seq ?_
  refine xp_region rfl ?_
  refine op_box (v := .agg #[.slice _ _ _, .slice _ _ _, .slice _ _ _, .slice _ _ _]) (cs := [_, _, _, _]) rfl rfl fun b1 hb1 => ?_
  refine wp_norm [_, _] rfl ?_
  refine op_pure (pv_assign (v := .slice _ _ _) rfl) ?_
  refine op_pure (pv_assign (v := .int .i64 _) rfl) ?_
  refine xp_seq ?_
  refine xp_region rfl ?_
  refine op_loadPA 1 (vs := [.slice _ _ _, .slice _ _ _, .slice _ _ _, .slice _ _ _]) rfl rfl rfl rfl rfl ?_
  refine op_fn (caps := []) (vs := [.agg #[.slice _ _ _, .slice _ _ _, .slice _ _ _, .slice _ _ _]]) rfl rfl rfl (rKnown_ok s Sm A0 A1 A2 A3 c0 c1 c2 c3 h (R.ext (Ext.refl _))) ?_
  rintro _ h1 E1 ⟨B1, n1, d1, B2, n2, d2, rfl, hKn⟩
  refine op_pure (pv_move (v := .tuple #[.slice _ _ _, .slice _ _ _, .int .i64 _]) rfl) ?_
  refine op_pure (pv_of (v := .slice _ _ _) rfl) ?_
  refine op_pure (pv_of (v := .slice _ _ _) rfl) ?_
  refine op_pure (pv_of (v := .int .i64 _) rfl) ?_
  refine op_pure (pv_assign (v := .slice _ _ _) rfl) ?_
  refine op_pure (pv_assign (v := .slice _ _ _) rfl) ?_
  refine op_pure (pv_assign (v := .int .i64 _) rfl) ?_
  refine xp_seq ?_
  refine xp_seq ?_
  refine xp_region rfl ?_
  refine op_pure (pv_move (v := .int .i64 _) rfl) ?_
  refine op_pure (pv_of (v := .bool _) rfl) ?_
  refine xp_cond rfl (fun hc => ?_) (fun hc => ?_)
  · skip
    have hc0 : knownM s [] ≠ 0 := by simpa using hc
    refine xp_seq ?_
    refine xp_region rfl ?_
    refine op_pure (pv_move (v := .int .i64 _) rfl) ?_
    refine op_pure (pv_assign (v := .slice _ _ _) rfl) ?_
    refine op_pure (pv_assign (v := .int .i64 _) rfl) ?_
    refine xp_ret ?_
    refine res_list (vs := [_, _]) Try.results44 ⟨resV_tmp rfl rfl, resV_tmp rfl rfl, trivial⟩ fun V => ?_
    exact ⟨(Ext.trans E1 (ext_wl V)), .slice none 0 0, rfl, by rw [firstL, if_neg (by rw [firstE]; exact hc0)]; exact slr_nil _ _ _⟩
  · skip
    have hc0 : knownM s [] = 0 := by simpa using hc
    have hk := knownM_zero hc0
    have SV := checkM_zero hk.1
    have hw6 := SV.b.w6
    have hj3 := SV.b.j3
    have eL : firstL s = (List.range s.joints.length).map (firstM s) := by rw [firstL, if_pos (by rw [firstE]; exact hc0)]
    obtain ⟨⟨_, _, ps1, q1, RA1, RL1⟩, ⟨_, _, ps2, q2, RA2, RL2⟩⟩ := hKn hc0
    cases q1
    cases q2
    have hS1 := rSk_len729 SV 1
    have hS2 := rSk_len729 SV 2
    refine xp_skip ?_
    refine xp_seq ?_
    refine xp_region rfl ?_
    refine op_pure (pv_assign (v := .slice _ _ _) rfl) ?_
    refine xp_seq ?_
    refine xp_seq ?_
    refine xp_region rfl ?_
    refine op_pure (pv_assign (v := .int .i64 _) rfl) ?_
    refine xp_block ?_
    refine xp_loopL [7, 8, 9, 10, 11, 12, 13, 14, 15, 16, 26, 27, 28, 29, 30, 31, 32, 33, 34, 35, 36, 37, 38, 39, 40, 41, 42, 43, 44, 45, 46, 47, 48, 49, 50, 51, 52, 53, 54, 55, 56, 57, 58, 59, 60, 61, 62, 63, 64, 65, 66, 67, 68, 69, 70, 71, 72, 73, 74, 75, 76, 77, 78, 79, 80, 81, 82, 83, 84, 85, 86, 87, 88, 89, 90, 91, 92, 93, 94, 95, 96, 97, 98, 99, 100, 101, 102, 103, 104, 105, 106, 107, 108, 109, 110, 111, 112, 113, 114, 115, 116, 117, 118, 119, 120, 121, 122, 123] 2 (α := Nat × Acc) (fun ⟨j, a⟩ => [(7, .slice a.A a.n a.c), (8, .int .i64 j)]) (fun ⟨j, a⟩ L => L.set 0 (a.p)) (fun ⟨j, a⟩ h_j => j ≤ s.joints.length ∧ AccR 3 1 (((List.range j).map (firstM s)).flatMap intC) a) (fun ⟨j, a⟩ => s.joints.length - j) ((0, acc0)) ⟨rfl, rfl, trivial⟩ (rfl) (⟨Nat.zero_le _, accR0⟩) ?_
    rintro ⟨j, a⟩ T1 h_j E_j J_j
    refine goes_norm [_, _] rfl ?_
    obtain ⟨K1, K2⟩ := J_j
    refine xp_seq ?_
    refine xp_seq ?_
    refine xp_region rfl ?_
    refine op_pure (pv_move (v := .int .i64 _) rfl) ?_
    refine op_pure (pv_fieldAddr rfl rfl rfl rfl 2 rfl) ?_
    refine op_loadP 1 (v := .slice _ _ _) rfl rfl rfl rfl ?_
    refine op_pure (pv_len rfl rfl) ?_
    refine op_pure (pv_of (v := .bool _) rfl) ?_
    refine xp_cond rfl (fun hj => ?_) (fun hj => ?_)
    · skip
      have hjl : j < s.joints.length := ltI hj
      refine xp_skip ?_
      refine xp_seq ?_
      refine xp_block ?_
      refine xp_seq ?_
      refine xp_region rfl ?_
      refine op_pure (pv_assign (v := .bool _) rfl) ?_
      refine op_pure (pv_assign (v := .bool _) rfl) ?_
      refine xp_seq ?_
      refine xp_seq ?_
      refine xp_region rfl ?_
      refine op_pure (pv_assign (v := .int .i64 _) rfl) ?_
      refine xp_block ?_
      refine xp_loopB [9, 10, 11, 12, 13, 14, 15, 16, 33, 34, 35, 36, 37, 38, 39, 40, 41, 42, 43, 44, 45, 46, 47, 48, 49, 50, 51, 52, 53, 54, 55, 56, 57, 58, 59, 60, 61, 62, 63, 64, 65, 66, 67, 68, 69, 70, 71, 72, 73, 74, 75, 76, 77, 78, 79, 80, 81, 82, 83, 84, 85, 86, 87, 88, 89, 90, 91, 92, 93, 94, 95, 96, 97, 98, 99, 100, 101, 102, 103, 104, 105, 106, 107, 108, 109, 110, 111, 112, 113, 114, 115, 116, 117] 2 (α := Nat) (fun i => [(9, .bool (anyP (fun x y => fstP s x y j s.joints.length) (rSk s 1) (rSk s 2) i 0)), (10, .bool (anyP (fun x y => nonP s x y j s.joints.length) (rSk s 1) (rSk s 2) i 0)), (11, .int .i64 i)]) (fun i => _) (fun i h_i => i ≤ (rSk s 1).length) (fun i => (rSk s 1).length - i) (0) ⟨(by rw [anyP_zero]; rfl), (by rw [anyP_zero]; rfl), rfl, trivial⟩ (rfl) (Nat.zero_le _) ?_
      rintro i T2 h_i E_i J_i
      refine goes_norm [_, _] rfl ?_
      refine xp_seq ?_
      refine xp_seq ?_
      refine xp_region rfl ?_
      refine op_pure (pv_move (v := .int .i64 _) rfl) ?_
      refine op_pure (pv_move (v := .slice _ _ _) rfl) ?_
      refine op_pure (pv_len rfl rfl) ?_
      refine op_pure (pv_of (v := .bool _) rfl) ?_
      refine xp_cond rfl (fun hi => ?_) (fun hi => ?_)
      · skip
        have hil : i < (rSk s 1).length := ltI hi
        have hx : (rSk s 1)[i] ∈ rSk s 1 := List.getElem_mem hil
        have hgx : (rSk s 1).getD i [] = (rSk s 1)[i] := by rw [List.getD_eq_getElem?_getD, List.getElem?_eq_getElem hil]; rfl
        refine xp_skip ?_
        refine xp_seq ?_
        refine xp_block ?_
        refine xp_seq ?_
        refine xp_region rfl ?_
        refine op_pure (pv_assign (v := .int .i64 _) rfl) ?_
        refine xp_block ?_
        refine xp_loopB [9, 10, 12, 13, 14, 15, 16, 39, 40, 41, 42, 43, 44, 45, 46, 47, 48, 49, 50, 51, 52, 53, 54, 55, 56, 57, 58, 59, 60, 61, 62, 63, 64, 65, 66, 67, 68, 69, 70, 71, 72, 73, 74, 75, 76, 77, 78, 79, 80, 81, 82, 83, 84, 85, 86, 87, 88, 89, 90, 91, 92, 93, 94, 95, 96, 97, 98, 99, 100, 101, 102, 103, 104, 105, 106, 107, 108, 109, 110, 111, 112, 113, 114, 115, 116, 117] 2 (α := Nat) (fun k => [(9, .bool (anyP (fun x y => fstP s x y j s.joints.length) (rSk s 1) (rSk s 2) i k)), (10, .bool (anyP (fun x y => nonP s x y j s.joints.length) (rSk s 1) (rSk s 2) i k)), (12, .int .i64 k)]) (fun k => _) (fun k h_k => k ≤ (rSk s 2).length) (fun k => (rSk s 2).length - k) (0) ⟨rfl, rfl, rfl, trivial⟩ (rfl) (Nat.zero_le _) ?_
        rintro k T3 h_k E_k J_k
        refine goes_norm [_, _] rfl ?_
        refine xp_seq ?_
        refine xp_seq ?_
        refine xp_region rfl ?_
        refine op_pure (pv_move (v := .int .i64 _) rfl) ?_
        refine op_pure (pv_move (v := .slice _ _ _) rfl) ?_
        refine op_pure (pv_len rfl rfl) ?_
        refine op_pure (pv_of (v := .bool _) rfl) ?_
        refine xp_cond rfl (fun hk2 => ?_) (fun hk2 => ?_)
        · skip
          have hkl : k < (rSk s 2).length := ltI hk2
          have hy : (rSk s 2)[k] ∈ rSk s 2 := List.getElem_mem hkl
          obtain ⟨gx, ox, AX1, cX1, AF1, cF1, vF1, hBx, hcx, RF1, LF1⟩ := rec_cells RA1 RL1 (Ext.trans (Ext.trans E_j E_i) E_k) hil
          obtain ⟨gy, oy, AX2, cX2, AF2, cF2, vF2, hBy, hcy, RF2, LF2⟩ := rec_cells RA2 RL2 (Ext.trans (Ext.trans E_j E_i) E_k) hkl
          have hwj := fun o (ho : o < s.joints.length) => jl_bd SV hx hy ho
          refine xp_skip ?_
          refine xp_seq ?_
          refine xp_block ?_
          refine xp_seq ?_
          refine xp_dw [] rfl rfl rfl ?_
          refine dw_load (i := 0) rfl (by decide +kernel) ?_
          refine op_loadPA 1 (vs := [.slice _ _ _, .slice _ _ _, .slice _ _ _, .slice _ _ _]) rfl rfl rfl rfl rfl ?_
          refine dw_pure (i := 1) rfl (by decide +kernel) (pv_move (v := .slice _ _ _) rfl) ?_
          refine dw_pure (i := 2) rfl (by decide +kernel) (pv_move (v := .int .i64 _) rfl) ?_
          refine dw_pure (i := 3) rfl (by decide +kernel) (pv_indexE rfl hBx rfl rfl rfl (by omega) (by omega)) ?_
          refine dw_load (i := 4) rfl (by decide +kernel) ?_
          refine op_loadA rfl rfl rfl rfl (hcx) ?_
          refine dw_pure (i := 5) rfl (by decide +kernel) (pv_move (v := .slice _ _ _) rfl) ?_
          refine dw_pure (i := 6) rfl (by decide +kernel) (pv_move (v := .int .i64 _) rfl) ?_
          refine dw_pure (i := 7) rfl (by decide +kernel) (pv_indexE rfl hBy rfl rfl rfl (by omega) (by omega)) ?_
          refine dw_load (i := 8) rfl (by decide +kernel) ?_
          refine op_loadA rfl rfl rfl rfl (hcy) ?_
          refine dw_last (i := 9) rfl (by decide +kernel) (by decide +kernel) ?_
          refine op_fn (caps := []) (vs := [.agg #[.slice _ _ _, .slice _ _ _, .slice _ _ _, .slice _ _ _], .agg #[.slice _ _ _, .slice _ _ _], .agg #[.slice _ _ _, .slice _ _ _]]) rfl rfl rfl (rWeeksOf_ok s SV hx hy AX1 AF1 AX2 AF2 cX1 cF1 cX2 cF2 _ _ vF1 vF2 A0 A1 A2 A3 c0 c1 c2 c3 h_k (R.ext (Ext.trans (Ext.trans (Ext.trans E1 E_j) E_i) E_k)) RF1 LF1 RF2 LF2) ?_
          rintro _ h5 E5 ⟨AW, cW, rfl, RW⟩
          have hwl := weeksL_len s (rSk s 1)[i] (rSk s 2)[k]
          obtain ⟨gj, oj, hBj, hcj⟩ := (RW.ext (Ext.refl _)).at (by omega) (show j < (weeksL s (rSk s 1)[i] (rSk s 2)[k]).length by omega)
          rw [weeksL_at] at hcj
          have hcj0 := hcj 0 (.int .i64 (fR (jlL s (rSk s 1)[i] (rSk s 2)[k] j)).mn) rfl
          have hcj1 := hcj 1 (.int .i64 (fR (jlL s (rSk s 1)[i] (rSk s 2)[k] j)).mx) rfl
          have hbj := hwj j hjl
          refine dw_pure (i := 10) rfl (by decide +kernel) (pv_assign (v := .slice _ _ _) rfl) ?_
          refine dw_end rfl ?_
          refine xp_seq ?_
          refine xp_dw [] rfl rfl rfl ?_
          refine dw_pure (i := 0) rfl (by decide +kernel) (pv_move (v := .slice _ _ _) rfl) ?_
          refine dw_pure (i := 1) rfl (by decide +kernel) (pv_move (v := .int .i64 _) rfl) ?_
          refine dw_pure (i := 2) rfl (by decide +kernel) (pv_indexE rfl hBj rfl rfl rfl (by omega) (by omega)) ?_
          refine dw_pure (i := 3) rfl (by decide +kernel) (pv_fieldAddr rfl rfl rfl rfl _ rfl) ?_
          refine dw_load (i := 4) rfl (by decide +kernel) ?_
          refine op_load (v := .int .i64 _) rfl rfl hcj0 ?_
          refine dw_pure (i := 5) rfl (by decide +kernel) (pv_fieldAddr rfl rfl rfl rfl 0 rfl) ?_
          refine dw_load (i := 6) rfl (by decide +kernel) ?_
          refine op_loadP 1 (v := .slice _ _ _) rfl rfl rfl rfl ?_
          refine dw_pure (i := 7) rfl (by decide +kernel) (pv_len rfl rfl) ?_
          refine dw_pure (i := 8) rfl (by decide +kernel) (pv_of (v := .bool _) rfl) ?_
          refine dw_pure (i := 9) rfl (by decide +kernel) (pv_move (v := .slice _ _ _) rfl) ?_
          refine dw_pure (i := 10) rfl (by decide +kernel) (pv_move (v := .int .i64 _) rfl) ?_
          refine dw_pure (i := 11) rfl (by decide +kernel) (pv_indexE rfl hBj rfl rfl rfl (by omega) (by omega)) ?_
          refine dw_pure (i := 12) rfl (by decide +kernel) (pv_fieldAddr rfl rfl rfl rfl _ rfl) ?_
          refine dw_load (i := 13) rfl (by decide +kernel) ?_
          refine op_load (v := .int .i64 _) rfl rfl hcj1 ?_
          refine dw_pure (i := 14) rfl (by decide +kernel) (pv_fieldAddr rfl rfl rfl rfl 0 rfl) ?_
          refine dw_load (i := 15) rfl (by decide +kernel) ?_
          refine op_loadP 1 (v := .slice _ _ _) rfl rfl rfl rfl ?_
          refine dw_pure (i := 16) rfl (by decide +kernel) (pv_len rfl rfl) ?_
          refine dw_pure (i := 17) rfl (by decide +kernel) (pv_of (v := .bool _) rfl) ?_
          refine dw_pure (i := 18) rfl (by decide +kernel) (pv_assign (v := .bool _) rfl) ?_
          refine dw_pure (i := 19) rfl (by decide +kernel) (pv_assign (v := .bool _) rfl) ?_
          refine dw_end rfl ?_
          refine xp_seq ?_
          refine xp_seq ?_
          refine xp_region rfl ?_
          refine op_pure (pv_assign (v := .int .i64 _) rfl) ?_
          refine xp_block ?_
          refine xp_loopB [14, 15, 16, 73, 74, 75, 76, 77, 78, 79, 80, 81, 82, 83, 84, 85, 86, 87, 88, 89, 90, 91, 92, 93, 94, 95, 96, 97, 98, 99, 100, 101, 102, 103, 104, 105, 106, 107, 108, 109] 2 (α := Nat) (fun o => [(14, .bool (fstP s (rSk s 1)[i] (rSk s 2)[k] j o)), (15, .bool (nonP s (rSk s 1)[i] (rSk s 2)[k] j o)), (16, .int .i64 o)]) (fun o => _) (fun o h_o => o ≤ s.joints.length) (fun o => s.joints.length - o) (0) ⟨(by rw [fstP_zero]; rfl), (by rw [nonP_zero]; rfl), rfl, trivial⟩ (rfl) (Nat.zero_le _) ?_
          rintro o T4 h_o E_o J_o
          refine goes_norm [_, _] rfl ?_
          refine xp_seq ?_
          refine xp_seq ?_
          refine xp_region rfl ?_
          refine op_pure (pv_move (v := .int .i64 _) rfl) ?_
          refine op_pure (pv_move (v := .slice _ _ _) rfl) ?_
          refine op_pure (pv_len rfl rfl) ?_
          refine op_pure (pv_of (v := .bool _) rfl) ?_
          refine xp_cond rfl (fun ho => ?_) (fun ho => ?_)
          · skip
            have hol : o < s.joints.length := by have := of_decide_eq_true ho; omega
            have hbo := hwj o hol
            refine xp_skip ?_
            refine xp_seq ?_
            refine xp_block ?_
            refine xp_seq ?_
            refine xp_region rfl ?_
            refine op_pure (pv_move (v := .int .i64 _) rfl) ?_
            refine op_pure (pv_move (v := .int .i64 _) rfl) ?_
            refine op_pure (pv_of (v := .bool _) rfl) ?_
            refine xp_cond rfl (fun hne => ?_) (fun hne => ?_)
            · skip
              have hoj : ¬ o = j := by
                intro e
                rw [e] at hne
                simp at hne
              obtain ⟨go, oo, hBo, hco⟩ := (RW.ext E_o).at (by omega) (show o < (weeksL s (rSk s 1)[i] (rSk s 2)[k]).length by omega)
              rw [weeksL_at] at hco
              have hco0 := hco 0 (.int .i64 (fR (jlL s (rSk s 1)[i] (rSk s 2)[k] o)).mn) rfl
              have hco1 := hco 1 (.int .i64 (fR (jlL s (rSk s 1)[i] (rSk s 2)[k] o)).mx) rfl
              obtain ⟨gj, oj, hBj, hcj⟩ := (RW.ext E_o).at (by omega) (show j < (weeksL s (rSk s 1)[i] (rSk s 2)[k]).length by omega)
              rw [weeksL_at] at hcj
              have hcj0 := hcj 0 (.int .i64 (fR (jlL s (rSk s 1)[i] (rSk s 2)[k] j)).mn) rfl
              have hcj1 := hcj 1 (.int .i64 (fR (jlL s (rSk s 1)[i] (rSk s 2)[k] j)).mx) rfl
              rcases Bool.eq_false_or_eq_true (fstP s (rSk s 1)[i] (rSk s 2)[k] j o) with e1 | e1
              · skip
                rcases Bool.eq_false_or_eq_true (nonP s (rSk s 1)[i] (rSk s 2)[k] j o) with e2 | e2
                · skip
                  refine xp_dw [] rfl rfl rfl ?_
                  refine dw_pure (i := 0) rfl (by decide +kernel) (pv_move (v := .bool _) rfl) ?_
                  refine dw_pure (i := 1) rfl (by decide +kernel) (pv_move (v := .bool _) rfl) ?_
                  refine dw_pureG (i := 2) rfl (by decide +kernel) rfl e1 (pv_move (v := .slice _ _ _) rfl) ?_
                  refine dw_pureG (i := 3) rfl (by decide +kernel) rfl e1 (pv_move (v := .int .i64 _) rfl) ?_
                  refine dw_pureG (i := 4) rfl (by decide +kernel) rfl e1 (pv_indexE rfl hBo rfl rfl rfl (by omega) (by omega)) ?_
                  refine dw_pureG (i := 5) rfl (by decide +kernel) rfl e1 (pv_fieldAddr rfl rfl rfl rfl _ rfl) ?_
                  refine dw_loadG (i := 6) rfl (by decide +kernel) rfl e1 ?_
                  refine op_load (v := .int .i64 _) rfl rfl hco1 ?_
                  refine dw_pureG (i := 7) rfl (by decide +kernel) rfl e1 (pv_move (v := .slice _ _ _) rfl) ?_
                  refine dw_pureG (i := 8) rfl (by decide +kernel) rfl e1 (pv_move (v := .int .i64 _) rfl) ?_
                  refine dw_pureG (i := 9) rfl (by decide +kernel) rfl e1 (pv_indexE rfl hBj rfl rfl rfl (by omega) (by omega)) ?_
                  refine dw_pureG (i := 10) rfl (by decide +kernel) rfl e1 (pv_fieldAddr rfl rfl rfl rfl _ rfl) ?_
                  refine dw_loadG (i := 11) rfl (by decide +kernel) rfl e1 ?_
                  refine op_load (v := .int .i64 _) rfl rfl hcj0 ?_
                  refine dw_pureG (i := 12) rfl (by decide +kernel) rfl e1 (pv_of (v := .bool _) rfl) ?_
                  refine dw_pure (i := 13) rfl (by decide +kernel) (pv_pickT rfl e1 (v := .bool _) rfl) ?_
                  refine dw_pure (i := 14) rfl (by decide +kernel) (pv_move (v := .bool _) rfl) ?_
                  refine dw_pure (i := 15) rfl (by decide +kernel) (pv_move (v := .bool _) rfl) ?_
                  refine dw_skip (i := 16) rfl (by decide +kernel) rfl e2 ?_
                  refine dw_skip (i := 17) rfl (by decide +kernel) rfl e2 ?_
                  refine dw_skip (i := 18) rfl (by decide +kernel) rfl e2 ?_
                  refine dw_skip (i := 19) rfl (by decide +kernel) rfl e2 ?_
                  refine dw_skip (i := 20) rfl (by decide +kernel) rfl e2 ?_
                  refine dw_skip (i := 21) rfl (by decide +kernel) rfl e2 ?_
                  refine dw_skip (i := 22) rfl (by decide +kernel) rfl e2 ?_
                  refine dw_skip (i := 23) rfl (by decide +kernel) rfl e2 ?_
                  refine dw_skip (i := 24) rfl (by decide +kernel) rfl e2 ?_
                  refine dw_skip (i := 25) rfl (by decide +kernel) rfl e2 ?_
                  refine dw_skip (i := 26) rfl (by decide +kernel) rfl e2 ?_
                  refine dw_pure (i := 27) rfl (by decide +kernel) (pv_pickT rfl e2 (v := .bool _) rfl) ?_
                  refine dw_pure (i := 28) rfl (by decide +kernel) (pv_assign (v := .bool _) rfl) ?_
                  refine dw_pure (i := 29) rfl (by decide +kernel) (pv_assign (v := .bool _) rfl) ?_
                  refine dw_end rfl ?_
                  refine xp_region rfl ?_
                  refine op_pure (pv_move (v := .int .i64 _) rfl) ?_
                  refine op_pure (pv_arith rfl (by omega)) ?_
                  refine op_pure (pv_assign (v := .int .i64 _) rfl) ?_
                  refine ⟨o + 1, ⟨(by rw [fstP_succ, e1, decide_eq_false hoj]; rfl), (by rw [nonP_succ, e2, decide_eq_false hoj]; rfl), rfl, trivial⟩, rfl, rfl, E_o, fun h3 E3 => hol, by first | omega | (dsimp only; omega), ?_⟩
                  repeat (first | exact off_base _ _ _ | refine off_upd (by decide) ?_ | refine off_updL rfl ?_ | refine off_mix rfl ?_)
                · skip
                  refine xp_dw [] rfl rfl rfl ?_
                  refine dw_pure (i := 0) rfl (by decide +kernel) (pv_move (v := .bool _) rfl) ?_
                  refine dw_pure (i := 1) rfl (by decide +kernel) (pv_move (v := .bool _) rfl) ?_
                  refine dw_pureG (i := 2) rfl (by decide +kernel) rfl e1 (pv_move (v := .slice _ _ _) rfl) ?_
                  refine dw_pureG (i := 3) rfl (by decide +kernel) rfl e1 (pv_move (v := .int .i64 _) rfl) ?_
                  refine dw_pureG (i := 4) rfl (by decide +kernel) rfl e1 (pv_indexE rfl hBo rfl rfl rfl (by omega) (by omega)) ?_
                  refine dw_pureG (i := 5) rfl (by decide +kernel) rfl e1 (pv_fieldAddr rfl rfl rfl rfl _ rfl) ?_
                  refine dw_loadG (i := 6) rfl (by decide +kernel) rfl e1 ?_
                  refine op_load (v := .int .i64 _) rfl rfl hco1 ?_
                  refine dw_pureG (i := 7) rfl (by decide +kernel) rfl e1 (pv_move (v := .slice _ _ _) rfl) ?_
                  refine dw_pureG (i := 8) rfl (by decide +kernel) rfl e1 (pv_move (v := .int .i64 _) rfl) ?_
                  refine dw_pureG (i := 9) rfl (by decide +kernel) rfl e1 (pv_indexE rfl hBj rfl rfl rfl (by omega) (by omega)) ?_
                  refine dw_pureG (i := 10) rfl (by decide +kernel) rfl e1 (pv_fieldAddr rfl rfl rfl rfl _ rfl) ?_
                  refine dw_loadG (i := 11) rfl (by decide +kernel) rfl e1 ?_
                  refine op_load (v := .int .i64 _) rfl rfl hcj0 ?_
                  refine dw_pureG (i := 12) rfl (by decide +kernel) rfl e1 (pv_of (v := .bool _) rfl) ?_
                  refine dw_pure (i := 13) rfl (by decide +kernel) (pv_pickT rfl e1 (v := .bool _) rfl) ?_
                  refine dw_pure (i := 14) rfl (by decide +kernel) (pv_move (v := .bool _) rfl) ?_
                  refine dw_pure (i := 15) rfl (by decide +kernel) (pv_move (v := .bool _) rfl) ?_
                  refine dw_pureG (i := 16) rfl (by decide +kernel) rfl e2 (pv_move (v := .slice _ _ _) rfl) ?_
                  refine dw_pureG (i := 17) rfl (by decide +kernel) rfl e2 (pv_move (v := .int .i64 _) rfl) ?_
                  refine dw_pureG (i := 18) rfl (by decide +kernel) rfl e2 (pv_indexE rfl hBo rfl rfl rfl (by omega) (by omega)) ?_
                  refine dw_pureG (i := 19) rfl (by decide +kernel) rfl e2 (pv_fieldAddr rfl rfl rfl rfl _ rfl) ?_
                  refine dw_loadG (i := 20) rfl (by decide +kernel) rfl e2 ?_
                  refine op_load (v := .int .i64 _) rfl rfl hco0 ?_
                  refine dw_pureG (i := 21) rfl (by decide +kernel) rfl e2 (pv_move (v := .slice _ _ _) rfl) ?_
                  refine dw_pureG (i := 22) rfl (by decide +kernel) rfl e2 (pv_move (v := .int .i64 _) rfl) ?_
                  refine dw_pureG (i := 23) rfl (by decide +kernel) rfl e2 (pv_indexE rfl hBj rfl rfl rfl (by omega) (by omega)) ?_
                  refine dw_pureG (i := 24) rfl (by decide +kernel) rfl e2 (pv_fieldAddr rfl rfl rfl rfl _ rfl) ?_
                  refine dw_loadG (i := 25) rfl (by decide +kernel) rfl e2 ?_
                  refine op_load (v := .int .i64 _) rfl rfl hcj1 ?_
                  refine dw_pureG (i := 26) rfl (by decide +kernel) rfl e2 (pv_of (v := .bool _) rfl) ?_
                  refine dw_pure (i := 27) rfl (by decide +kernel) (pv_pickF rfl e2 (v := .bool _) rfl) ?_
                  refine dw_pure (i := 28) rfl (by decide +kernel) (pv_assign (v := .bool _) rfl) ?_
                  refine dw_pure (i := 29) rfl (by decide +kernel) (pv_assign (v := .bool _) rfl) ?_
                  refine dw_end rfl ?_
                  refine xp_region rfl ?_
                  refine op_pure (pv_move (v := .int .i64 _) rfl) ?_
                  refine op_pure (pv_arith rfl (by omega)) ?_
                  refine op_pure (pv_assign (v := .int .i64 _) rfl) ?_
                  refine ⟨o + 1, ⟨(by rw [fstP_succ, e1, decide_eq_false hoj]; rfl), (by rw [nonP_succ, e2, decide_eq_false hoj]; rfl), rfl, trivial⟩, rfl, rfl, E_o, fun h3 E3 => hol, by first | omega | (dsimp only; omega), ?_⟩
                  repeat (first | exact off_base _ _ _ | refine off_upd (by decide) ?_ | refine off_updL rfl ?_ | refine off_mix rfl ?_)
              · skip
                rcases Bool.eq_false_or_eq_true (nonP s (rSk s 1)[i] (rSk s 2)[k] j o) with e2 | e2
                · skip
                  refine xp_dw [] rfl rfl rfl ?_
                  refine dw_pure (i := 0) rfl (by decide +kernel) (pv_move (v := .bool _) rfl) ?_
                  refine dw_pure (i := 1) rfl (by decide +kernel) (pv_move (v := .bool _) rfl) ?_
                  refine dw_skip (i := 2) rfl (by decide +kernel) rfl e1 ?_
                  refine dw_skip (i := 3) rfl (by decide +kernel) rfl e1 ?_
                  refine dw_skip (i := 4) rfl (by decide +kernel) rfl e1 ?_
                  refine dw_skip (i := 5) rfl (by decide +kernel) rfl e1 ?_
                  refine dw_skip (i := 6) rfl (by decide +kernel) rfl e1 ?_
                  refine dw_skip (i := 7) rfl (by decide +kernel) rfl e1 ?_
                  refine dw_skip (i := 8) rfl (by decide +kernel) rfl e1 ?_
                  refine dw_skip (i := 9) rfl (by decide +kernel) rfl e1 ?_
                  refine dw_skip (i := 10) rfl (by decide +kernel) rfl e1 ?_
                  refine dw_skip (i := 11) rfl (by decide +kernel) rfl e1 ?_
                  refine dw_skip (i := 12) rfl (by decide +kernel) rfl e1 ?_
                  refine dw_pure (i := 13) rfl (by decide +kernel) (pv_pickF rfl e1 (v := .bool _) rfl) ?_
                  refine dw_pure (i := 14) rfl (by decide +kernel) (pv_move (v := .bool _) rfl) ?_
                  refine dw_pure (i := 15) rfl (by decide +kernel) (pv_move (v := .bool _) rfl) ?_
                  refine dw_skip (i := 16) rfl (by decide +kernel) rfl e2 ?_
                  refine dw_skip (i := 17) rfl (by decide +kernel) rfl e2 ?_
                  refine dw_skip (i := 18) rfl (by decide +kernel) rfl e2 ?_
                  refine dw_skip (i := 19) rfl (by decide +kernel) rfl e2 ?_
                  refine dw_skip (i := 20) rfl (by decide +kernel) rfl e2 ?_
                  refine dw_skip (i := 21) rfl (by decide +kernel) rfl e2 ?_
                  refine dw_skip (i := 22) rfl (by decide +kernel) rfl e2 ?_
                  refine dw_skip (i := 23) rfl (by decide +kernel) rfl e2 ?_
                  refine dw_skip (i := 24) rfl (by decide +kernel) rfl e2 ?_
                  refine dw_skip (i := 25) rfl (by decide +kernel) rfl e2 ?_
                  refine dw_skip (i := 26) rfl (by decide +kernel) rfl e2 ?_
                  refine dw_pure (i := 27) rfl (by decide +kernel) (pv_pickT rfl e2 (v := .bool _) rfl) ?_
                  refine dw_pure (i := 28) rfl (by decide +kernel) (pv_assign (v := .bool _) rfl) ?_
                  refine dw_pure (i := 29) rfl (by decide +kernel) (pv_assign (v := .bool _) rfl) ?_
                  refine dw_end rfl ?_
                  refine xp_region rfl ?_
                  refine op_pure (pv_move (v := .int .i64 _) rfl) ?_
                  refine op_pure (pv_arith rfl (by omega)) ?_
                  refine op_pure (pv_assign (v := .int .i64 _) rfl) ?_
                  refine ⟨o + 1, ⟨(by rw [fstP_succ, e1, decide_eq_false hoj]; rfl), (by rw [nonP_succ, e2, decide_eq_false hoj]; rfl), rfl, trivial⟩, rfl, rfl, E_o, fun h3 E3 => hol, by first | omega | (dsimp only; omega), ?_⟩
                  repeat (first | exact off_base _ _ _ | refine off_upd (by decide) ?_ | refine off_updL rfl ?_ | refine off_mix rfl ?_)
                · skip
                  refine xp_dw [] rfl rfl rfl ?_
                  refine dw_pure (i := 0) rfl (by decide +kernel) (pv_move (v := .bool _) rfl) ?_
                  refine dw_pure (i := 1) rfl (by decide +kernel) (pv_move (v := .bool _) rfl) ?_
                  refine dw_skip (i := 2) rfl (by decide +kernel) rfl e1 ?_
                  refine dw_skip (i := 3) rfl (by decide +kernel) rfl e1 ?_
                  refine dw_skip (i := 4) rfl (by decide +kernel) rfl e1 ?_
                  refine dw_skip (i := 5) rfl (by decide +kernel) rfl e1 ?_
                  refine dw_skip (i := 6) rfl (by decide +kernel) rfl e1 ?_
                  refine dw_skip (i := 7) rfl (by decide +kernel) rfl e1 ?_
                  refine dw_skip (i := 8) rfl (by decide +kernel) rfl e1 ?_
                  refine dw_skip (i := 9) rfl (by decide +kernel) rfl e1 ?_
                  refine dw_skip (i := 10) rfl (by decide +kernel) rfl e1 ?_
                  refine dw_skip (i := 11) rfl (by decide +kernel) rfl e1 ?_
                  refine dw_skip (i := 12) rfl (by decide +kernel) rfl e1 ?_
                  refine dw_pure (i := 13) rfl (by decide +kernel) (pv_pickF rfl e1 (v := .bool _) rfl) ?_
                  refine dw_pure (i := 14) rfl (by decide +kernel) (pv_move (v := .bool _) rfl) ?_
                  refine dw_pure (i := 15) rfl (by decide +kernel) (pv_move (v := .bool _) rfl) ?_
                  refine dw_pureG (i := 16) rfl (by decide +kernel) rfl e2 (pv_move (v := .slice _ _ _) rfl) ?_
                  refine dw_pureG (i := 17) rfl (by decide +kernel) rfl e2 (pv_move (v := .int .i64 _) rfl) ?_
                  refine dw_pureG (i := 18) rfl (by decide +kernel) rfl e2 (pv_indexE rfl hBo rfl rfl rfl (by omega) (by omega)) ?_
                  refine dw_pureG (i := 19) rfl (by decide +kernel) rfl e2 (pv_fieldAddr rfl rfl rfl rfl _ rfl) ?_
                  refine dw_loadG (i := 20) rfl (by decide +kernel) rfl e2 ?_
                  refine op_load (v := .int .i64 _) rfl rfl hco0 ?_
                  refine dw_pureG (i := 21) rfl (by decide +kernel) rfl e2 (pv_move (v := .slice _ _ _) rfl) ?_
                  refine dw_pureG (i := 22) rfl (by decide +kernel) rfl e2 (pv_move (v := .int .i64 _) rfl) ?_
                  refine dw_pureG (i := 23) rfl (by decide +kernel) rfl e2 (pv_indexE rfl hBj rfl rfl rfl (by omega) (by omega)) ?_
                  refine dw_pureG (i := 24) rfl (by decide +kernel) rfl e2 (pv_fieldAddr rfl rfl rfl rfl _ rfl) ?_
                  refine dw_loadG (i := 25) rfl (by decide +kernel) rfl e2 ?_
                  refine op_load (v := .int .i64 _) rfl rfl hcj1 ?_
                  refine dw_pureG (i := 26) rfl (by decide +kernel) rfl e2 (pv_of (v := .bool _) rfl) ?_
                  refine dw_pure (i := 27) rfl (by decide +kernel) (pv_pickF rfl e2 (v := .bool _) rfl) ?_
                  refine dw_pure (i := 28) rfl (by decide +kernel) (pv_assign (v := .bool _) rfl) ?_
                  refine dw_pure (i := 29) rfl (by decide +kernel) (pv_assign (v := .bool _) rfl) ?_
                  refine dw_end rfl ?_
                  refine xp_region rfl ?_
                  refine op_pure (pv_move (v := .int .i64 _) rfl) ?_
                  refine op_pure (pv_arith rfl (by omega)) ?_
                  refine op_pure (pv_assign (v := .int .i64 _) rfl) ?_
                  refine ⟨o + 1, ⟨(by rw [fstP_succ, e1, decide_eq_false hoj]; rfl), (by rw [nonP_succ, e2, decide_eq_false hoj]; rfl), rfl, trivial⟩, rfl, rfl, E_o, fun h3 E3 => hol, by first | omega | (dsimp only; omega), ?_⟩
                  repeat (first | exact off_base _ _ _ | refine off_upd (by decide) ?_ | refine off_updL rfl ?_ | refine off_mix rfl ?_)
            · skip
              have hoj : o = j := by
                have : ¬ ((o : Int) ≠ (j : Int)) := by simpa using hne
                omega
              refine xp_skip ?_
              refine xp_region rfl ?_
              refine op_pure (pv_move (v := .int .i64 _) rfl) ?_
              refine op_pure (pv_arith rfl (by omega)) ?_
              refine op_pure (pv_assign (v := .int .i64 _) rfl) ?_
              refine ⟨o + 1, ⟨(by rw [fstP_succ, decide_eq_true hoj, Bool.true_or, Bool.and_true]; rfl), (by rw [nonP_succ, decide_eq_true hoj, Bool.not_true, Bool.false_and, Bool.or_false]; rfl), rfl, trivial⟩, rfl, rfl, E_o, fun h3 E3 => hol, by first | omega | (dsimp only; omega), ?_⟩
              repeat (first | exact off_base _ _ _ | refine off_upd (by decide) ?_ | refine off_updL rfl ?_ | refine off_mix rfl ?_)
          · skip
            have hoe : o = s.joints.length := by have := of_decide_eq_false ho; omega
            subst hoe
            refine xp_exit ?_
            refine xp_region rfl ?_
            refine op_pure (pv_move (v := .bool _) rfl) ?_
            refine op_pure (pv_move (v := .bool _) rfl) ?_
            rcases Bool.eq_false_or_eq_true (anyP (fun x y => fstP s x y j s.joints.length) (rSk s 1) (rSk s 2) i k) with e1 | e1
            · skip
              rcases Bool.eq_false_or_eq_true (anyP (fun x y => nonP s x y j s.joints.length) (rSk s 1) (rSk s 2) i k) with e2 | e2
              · skip
                refine guard_no rfl e1 ?_
                refine op_pure (pv_pickT rfl e1 (v := .bool _) rfl) ?_
                refine op_pure (pv_move (v := .bool _) rfl) ?_
                refine op_pure (pv_move (v := .bool _) rfl) ?_
                refine guard_no rfl e2 ?_
                refine op_pure (pv_pickT rfl e2 (v := .bool _) rfl) ?_
                refine op_pure (pv_assign (v := .bool _) rfl) ?_
                refine op_pure (pv_assign (v := .bool _) rfl) ?_
                refine xp_region rfl ?_
                refine op_pure (pv_move (v := .int .i64 _) rfl) ?_
                refine op_pure (pv_arith rfl (by omega)) ?_
                refine op_pure (pv_assign (v := .int .i64 _) rfl) ?_
                refine ⟨k + 1, ⟨(by rw [anyP_step hkl, e1, hgx]; rfl), (by rw [anyP_step hkl, e2, hgx]; rfl), rfl, trivial⟩, rfl, rfl, (Ext.trans (Ext.trans E_k E5) E_o), fun h3 E3 => hkl, by first | omega | (dsimp only; omega), ?_⟩
                repeat (first | exact off_base _ _ _ | refine off_upd (by decide) ?_ | refine off_updL rfl ?_ | refine off_mix rfl ?_)
              · skip
                refine guard_no rfl e1 ?_
                refine op_pure (pv_pickT rfl e1 (v := .bool _) rfl) ?_
                refine op_pure (pv_move (v := .bool _) rfl) ?_
                refine op_pure (pv_move (v := .bool _) rfl) ?_
                refine guard_yes rfl e2 ?_
                refine op_pure (pv_move (v := .bool _) rfl) ?_
                refine op_pure (pv_pickF rfl e2 (v := .bool _) rfl) ?_
                refine op_pure (pv_assign (v := .bool _) rfl) ?_
                refine op_pure (pv_assign (v := .bool _) rfl) ?_
                refine xp_region rfl ?_
                refine op_pure (pv_move (v := .int .i64 _) rfl) ?_
                refine op_pure (pv_arith rfl (by omega)) ?_
                refine op_pure (pv_assign (v := .int .i64 _) rfl) ?_
                refine ⟨k + 1, ⟨(by rw [anyP_step hkl, e1, hgx]; rfl), (by rw [anyP_step hkl, e2, hgx]; rfl), rfl, trivial⟩, rfl, rfl, (Ext.trans (Ext.trans E_k E5) E_o), fun h3 E3 => hkl, by first | omega | (dsimp only; omega), ?_⟩
                repeat (first | exact off_base _ _ _ | refine off_upd (by decide) ?_ | refine off_updL rfl ?_ | refine off_mix rfl ?_)
            · skip
              rcases Bool.eq_false_or_eq_true (anyP (fun x y => nonP s x y j s.joints.length) (rSk s 1) (rSk s 2) i k) with e2 | e2
              · skip
                refine guard_yes rfl e1 ?_
                refine op_pure (pv_move (v := .bool _) rfl) ?_
                refine op_pure (pv_pickF rfl e1 (v := .bool _) rfl) ?_
                refine op_pure (pv_move (v := .bool _) rfl) ?_
                refine op_pure (pv_move (v := .bool _) rfl) ?_
                refine guard_no rfl e2 ?_
                refine op_pure (pv_pickT rfl e2 (v := .bool _) rfl) ?_
                refine op_pure (pv_assign (v := .bool _) rfl) ?_
                refine op_pure (pv_assign (v := .bool _) rfl) ?_
                refine xp_region rfl ?_
                refine op_pure (pv_move (v := .int .i64 _) rfl) ?_
                refine op_pure (pv_arith rfl (by omega)) ?_
                refine op_pure (pv_assign (v := .int .i64 _) rfl) ?_
                refine ⟨k + 1, ⟨(by rw [anyP_step hkl, e1, hgx]; rfl), (by rw [anyP_step hkl, e2, hgx]; rfl), rfl, trivial⟩, rfl, rfl, (Ext.trans (Ext.trans E_k E5) E_o), fun h3 E3 => hkl, by first | omega | (dsimp only; omega), ?_⟩
                repeat (first | exact off_base _ _ _ | refine off_upd (by decide) ?_ | refine off_updL rfl ?_ | refine off_mix rfl ?_)
              · skip
                refine guard_yes rfl e1 ?_
                refine op_pure (pv_move (v := .bool _) rfl) ?_
                refine op_pure (pv_pickF rfl e1 (v := .bool _) rfl) ?_
                refine op_pure (pv_move (v := .bool _) rfl) ?_
                refine op_pure (pv_move (v := .bool _) rfl) ?_
                refine guard_yes rfl e2 ?_
                refine op_pure (pv_move (v := .bool _) rfl) ?_
                refine op_pure (pv_pickF rfl e2 (v := .bool _) rfl) ?_
                refine op_pure (pv_assign (v := .bool _) rfl) ?_
                refine op_pure (pv_assign (v := .bool _) rfl) ?_
                refine xp_region rfl ?_
                refine op_pure (pv_move (v := .int .i64 _) rfl) ?_
                refine op_pure (pv_arith rfl (by omega)) ?_
                refine op_pure (pv_assign (v := .int .i64 _) rfl) ?_
                refine ⟨k + 1, ⟨(by rw [anyP_step hkl, e1, hgx]; rfl), (by rw [anyP_step hkl, e2, hgx]; rfl), rfl, trivial⟩, rfl, rfl, (Ext.trans (Ext.trans E_k E5) E_o), fun h3 E3 => hkl, by first | omega | (dsimp only; omega), ?_⟩
                repeat (first | exact off_base _ _ _ | refine off_upd (by decide) ?_ | refine off_updL rfl ?_ | refine off_mix rfl ?_)
        · skip
          have hke : k = (rSk s 2).length := by have := geI hk2; omega
          subst hke
          refine xp_exit ?_
          refine xp_region rfl ?_
          refine op_pure (pv_move (v := .int .i64 _) rfl) ?_
          refine op_pure (pv_arith rfl (by omega)) ?_
          refine op_pure (pv_assign (v := .int .i64 _) rfl) ?_
          refine ⟨i + 1, ⟨(by rw [anyP_next hil]; rfl), (by rw [anyP_next hil]; rfl), rfl, trivial⟩, rfl, rfl, (Ext.trans E_i E_k), fun h3 E3 => hil, by first | omega | (dsimp only; omega), ?_⟩
          repeat (first | exact off_base _ _ _ | refine off_upd (by decide) ?_ | refine off_updL rfl ?_ | refine off_mix rfl ?_)
      · skip
        have hie : i = (rSk s 1).length := by have := geI hi; omega
        subst hie
        refine xp_exit ?_
        refine xp_region rfl ?_
        refine op_pure (pv_move (v := .slice _ _ _) rfl) ?_
        refine op_pure (pv_move (v := .bool _) rfl) ?_
        refine op_pure (pv_move (v := .bool _) rfl) ?_
        refine op_fn (caps := []) (vs := [.bool _, .bool _]) rfl rfl rfl (rVerdict_ok _ _ h_i) ?_
        rintro _ h4 E4 rfl
        rw [← first_eq SV hjl]
        refine op_buildSlice (zc := [_]) (vs := [(0, .int .i64 _)]) (cs := [_]) rfl rfl rfl rfl rfl rfl rfl fun b122 hb122 => ?_
        refine wp_norm [_, _, _] rfl ?_
        refine op_appendR 0 K2 rfl rfl rfl (fun V => rdP V (i := 2) rfl) rfl rfl rfl rfl rfl rfl rfl rfl rfl (by omega) rfl (by rw [flat_len (m := 1) (fun _ _ => rfl)]; simp; omega) fun a2 h5a E5a ha2 => ?_
        refine wp_norm [_, _, _] rfl ?_
        refine op_pure (pv_assign (v := .slice _ _ _) rfl) ?_
        refine xp_region rfl ?_
        refine op_pure (pv_move (v := .int .i64 _) rfl) ?_
        refine op_pure (pv_arith rfl (by omega)) ?_
        refine op_pure (pv_assign (v := .int .i64 _) rfl) ?_
        refine ⟨(j + 1, a2), ⟨rfl, rfl, trivial⟩, rfl, rfl, (Ext.trans (Ext.trans (Ext.trans E_j E_i) E4) E5a), fun h3 E3 => ⟨hjl, by rw [List.range_succ, List.map_append, List.flatMap_append]; exact ha2⟩, by first | omega | (dsimp only; omega), ?_⟩
        repeat (first | exact off_base _ _ _ | refine off_upd (by decide) ?_ | refine off_updL rfl ?_ | refine off_mix rfl ?_)
    · skip
      have hje : j = s.joints.length := by have := geI hj; omega
      subst hje
      rw [← eL] at K2
      obtain ⟨pO, AO, nO, cO⟩ := a
      obtain rfl : nO = (firstL s).length := by have := AccR.len K2; rw [flat_len (m := 1) (fun _ _ => rfl)] at this; dsimp only at *; omega
      dsimp only
      refine goes_pubO 0 rfl ?_
      intro gO GO PO
      refine goes_norm [_, _] rfl ?_
      refine xp_exit ?_
      refine xp_seq ?_
      refine xp_region rfl ?_
      refine op_pure (pv_move (v := .slice _ _ _) rfl) ?_
      refine op_pure (pv_assign (v := .slice _ _ _) rfl) ?_
      refine op_pure (pv_assign (v := .int .i64 _) rfl) ?_
      refine xp_ret ?_
      refine res_list (vs := [_, _]) Try.results44 ⟨resV_tmp rfl rfl, resV_tmp rfl rfl, trivial⟩ fun V => ?_
      exact ⟨(Ext.trans (Ext.trans (Ext.trans E1 E_j) GO) (ext_wl V)), .slice AO (firstL s).length cO, by rw [firstE, hc0]; rfl, AO, cO, rfl, fun _ _ => rfl, (AccR.rd K2 PO).ext (ext_wl V)⟩
end Go.Proofs.Ytndfkbapoinmkaa
/- Walks: how many joints are sound (the reference). Conditions: as each theorem states. -/
namespace Go.Proofs.Ytndfkbapoinmkaa
open Go Go.HL Go.Proofs Go.Wx
set_option maxRecDepth 100000
/-- The fates gone through. -/
def gone (s : Season) (i k : Nat) : List Fate := (((rSk s 1).take i).flatMap fun x => (rSk s 2).map (pF s x)) ++ ((rSk s 2).take k).map (pF s ((rSk s 1).getD i []))
theorem gone_step {s : Season} {i k : Nat} (h : k < (rSk s 2).length) : gone s i (k + 1) = gone s i k ++ [pF s ((rSk s 1).getD i []) (rSk s 2)[k]] := by
  unfold gone
  rw [take_snoc h, List.map_append, List.append_assoc]
  rfl
theorem gone_next {s : Season} {i : Nat} (h : i < (rSk s 1).length) : gone s (i + 1) 0 = gone s i (rSk s 2).length := by
  have hg : (rSk s 1).getD i [] = (rSk s 1)[i] := by rw [List.getD_eq_getElem?_getD, List.getElem?_eq_getElem h]; rfl
  unfold gone
  rw [take_snoc h, List.flatMap_append, List.take_length, hg]
  simp
theorem gone_all {s : Season} (SV : SeasonV s) : gone s (rSk s 1).length 0 = allFates s := by
  have hw6 := SV.b.w6
  rw [allFates_eq (by rw [(SV.b.wb 1).1]; exact hw6) (by rw [(SV.b.wb 2).1]; exact hw6)]
  unfold gone
  rw [List.take_length]
  simp
theorem soundLo_snoc (s : Season) (w : Nat) (l : List Fate) (f : Fate) : soundLo s w (l ++ [f]) = min (soundLo s w l) (mustN f w s.joints.length) := by unfold soundLo; rw [List.foldl_append]; rfl
theorem soundHi_snoc (s : Season) (w : Nat) (l : List Fate) (f : Fate) : soundHi s w (l ++ [f]) = max (soundHi s w l) (canN f w s.joints.length) := by unfold soundHi; rw [List.foldl_append]; rfl
set_option maxHeartbeats 8000000 in
theorem rSound_ok (s : Season) (Sm : Small s) (week : Int) (A0 A1 A2 A3 : Option Addr) (c0 c1 c2 c3 : Nat) (h : AH) (R : SeasonR h A0 A1 A2 A3 s) :
    FnT Try.prog 46 #[seasonV A0 A1 A2 A3 c0 c1 c2 c3 s, .int .i64 week] h (fun v h' => v = .tuple #[rgV (soundV s week), .int .i64 (soundE s week)]) := by
  have Sm0 := Sm.h0
  refine call_body Try.func46 rfl Try.ntmps46 rfl ?_
  refine xp_seq ?_
  refine xp_region rfl ?_
  refine op_box (v := .agg #[.slice _ _ _, .slice _ _ _, .slice _ _ _, .slice _ _ _]) (cs := [_, _, _, _]) rfl rfl fun b2 hb2 => ?_
  refine wp_norm [_] rfl ?_
  refine op_alloc (cs := [_, _]) rfl rfl fun b4 hb4 => ?_
  refine wp_norm [_, _] rfl ?_
  refine op_pure (pv_assign (v := .int .i64 _) rfl) ?_
  refine xp_seq ?_
  refine xp_seq ?_
  refine xp_region rfl ?_
  refine op_loadPA 0 (vs := [.slice _ _ _, .slice _ _ _, .slice _ _ _, .slice _ _ _]) rfl rfl rfl rfl rfl ?_
  refine op_fn (caps := []) (vs := [.agg #[.slice _ _ _, .slice _ _ _, .slice _ _ _, .slice _ _ _]]) rfl rfl rfl (rCheck_ok s Sm A0 A1 A2 A3 c0 c1 c2 c3 h (R.ext (Ext.refl _))) ?_
  rintro _ h1 E1 rfl
  refine op_pure (pv_assign (v := .int .i64 _) rfl) ?_
  refine xp_seq ?_
  refine xp_region rfl ?_
  refine op_pure (pv_move (v := .int .i64 _) rfl) ?_
  refine op_pure (pv_of (v := .bool _) rfl) ?_
  refine xp_cond rfl (fun hc => ?_) (fun hc => ?_)
  · skip
    have hc0 : checkM s ≠ 0 := by simpa using hc
    have hE : soundE s week = checkM s := by rw [soundE, known1, if_pos hc0]
    refine xp_seq ?_
    refine xp_region rfl ?_
    refine op_pure (pv_build (zc := [_, _]) (vs := []) (cs := [_, _]) rfl rfl rfl rfl rfl rfl) ?_
    refine op_pure (pv_move (v := .int .i64 _) rfl) ?_
    refine op_storeP 1 (v := .agg #[.int .i64 _, .int .i64 _]) (vs := [_, _]) (c' := [_, _]) rfl rfl rfl rfl rfl rfl rfl rfl rfl ?_
    refine wp_norm [_, _] rfl ?_
    refine op_pure (pv_assign (v := .int .i64 _) rfl) ?_
    refine xp_ret ?_
    refine res_list (vs := [_, _]) Try.results46 ⟨resV_agg 1 rfl rfl rfl rfl rfl (vs := [.int .i64 _, .int .i64 _]) rfl, resV_tmp rfl rfl, trivial⟩ fun V => ?_
    exact ⟨(Ext.trans E1 (ext_wl V)), by rw [soundV, if_neg (by rw [hE]; exact hc0), hE]; rfl⟩
  · skip
    have hc0 : checkM s = 0 := by simpa using hc
    have SV := checkM_zero hc0
    have hw6 := SV.b.w6
    have hj3 := SV.b.j3
    refine xp_skip ?_
    refine xp_seq ?_
    refine xp_seq ?_
    refine xp_region rfl ?_
    refine op_pure (pv_move (v := .int .i64 _) rfl) ?_
    refine op_pure (pv_fieldAddr rfl rfl rfl rfl 0 rfl) ?_
    refine op_loadP 0 (v := .slice _ _ _) rfl rfl rfl rfl ?_
    refine op_pure (pv_len rfl rfl) ?_
    refine op_pure (pv_arith rfl (by omega)) ?_
    refine op_fn (caps := []) (vs := [.int .i64 _, .int .i64 _, .int .i64 _]) rfl rfl rfl (rWithin_ok _ _ _ h1) ?_
    rintro _ h2 E2 rfl
    refine op_pure (pv_of (v := .bool _) rfl) ?_
    refine xp_cond rfl (fun hk => ?_) (fun hk => ?_)
    · skip
      have hb : inM week 0 ((s.heats.length : Int) - 1) = false := by simpa using hk
      have hE : soundE s week = 1 := by rw [soundE, known1, if_neg (by simp [hc0]), isWeekM, hb]; rfl
      refine xp_seq ?_
      refine xp_region rfl ?_
      refine op_pure (pv_build (zc := [_, _]) (vs := []) (cs := [_, _]) rfl rfl rfl rfl rfl rfl) ?_
      refine op_storeP 1 (v := .agg #[.int .i64 _, .int .i64 _]) (vs := [_, _]) (c' := [_, _]) rfl rfl rfl rfl rfl rfl rfl rfl rfl ?_
      refine wp_norm [_, _] rfl ?_
      refine op_pure (pv_assign (v := .int .i64 _) rfl) ?_
      refine xp_ret ?_
      refine res_list (vs := [_, _]) Try.results46 ⟨resV_agg 1 rfl rfl rfl rfl rfl (vs := [.int .i64 _, .int .i64 _]) rfl, resV_tmp rfl rfl, trivial⟩ fun V => ?_
      exact ⟨(Ext.trans (Ext.trans E1 E2) (ext_wl V)), by rw [soundV, if_neg (by rw [hE]; decide), hE]; rfl⟩
    · skip
      have hb : inM week 0 ((s.heats.length : Int) - 1) = true := by simpa using hk
      have hw0 : isWeekM s week = 0 := by rw [isWeekM, hb]; rfl
      have hE : soundE s week = knownM s [] := by
        rw [soundE, known1]
        simp [knownM, hc0, hw0, firstErr]
      obtain ⟨w, rfl, hwl⟩ := isWeekM_zero hw0
      refine xp_skip ?_
      refine xp_seq ?_
      refine xp_region rfl ?_
      refine op_loadPA 0 (vs := [.slice _ _ _, .slice _ _ _, .slice _ _ _, .slice _ _ _]) rfl rfl rfl rfl rfl ?_
      refine op_fn (caps := []) (vs := [.agg #[.slice _ _ _, .slice _ _ _, .slice _ _ _, .slice _ _ _]]) rfl rfl rfl (rKnown_ok s Sm A0 A1 A2 A3 c0 c1 c2 c3 h2 (R.ext (Ext.trans E1 E2))) ?_
      rintro _ h3 E3 ⟨B1, n1, d1, B2, n2, d2, rfl, hKn⟩
      refine op_pure (pv_move (v := .tuple #[.slice _ _ _, .slice _ _ _, .int .i64 _]) rfl) ?_
      refine op_pure (pv_of (v := .slice _ _ _) rfl) ?_
      refine op_pure (pv_of (v := .slice _ _ _) rfl) ?_
      refine op_pure (pv_of (v := .int .i64 _) rfl) ?_
      refine op_pure (pv_assign (v := .slice _ _ _) rfl) ?_
      refine op_pure (pv_assign (v := .slice _ _ _) rfl) ?_
      refine op_pure (pv_assign (v := .int .i64 _) rfl) ?_
      refine xp_seq ?_
      refine xp_seq ?_
      refine xp_region rfl ?_
      refine op_pure (pv_move (v := .int .i64 _) rfl) ?_
      refine op_pure (pv_of (v := .bool _) rfl) ?_
      refine xp_cond rfl (fun he => ?_) (fun he => ?_)
      · skip
        have he0 : knownM s [] ≠ 0 := by simpa using he
        refine xp_seq ?_
        refine xp_region rfl ?_
        refine op_pure (pv_build (zc := [_, _]) (vs := []) (cs := [_, _]) rfl rfl rfl rfl rfl rfl) ?_
        refine op_pure (pv_move (v := .int .i64 _) rfl) ?_
        refine op_storeP 1 (v := .agg #[.int .i64 _, .int .i64 _]) (vs := [_, _]) (c' := [_, _]) rfl rfl rfl rfl rfl rfl rfl rfl rfl ?_
        refine wp_norm [_, _] rfl ?_
        refine op_pure (pv_assign (v := .int .i64 _) rfl) ?_
        refine xp_ret ?_
        refine res_list (vs := [_, _]) Try.results46 ⟨resV_agg 1 rfl rfl rfl rfl rfl (vs := [.int .i64 _, .int .i64 _]) rfl, resV_tmp rfl rfl, trivial⟩ fun V => ?_
        exact ⟨(Ext.trans (Ext.trans (Ext.trans E1 E2) E3) (ext_wl V)), by rw [soundV, if_neg (by rw [hE]; exact he0), hE]; rfl⟩
      · skip
        have he0 : knownM s [] = 0 := by simpa using he
        have hV : soundV s w = ⟨soundLo s w (allFates s), soundHi s w (allFates s)⟩ := by rw [soundV, if_pos (by rw [hE]; exact he0)]; rfl
        obtain ⟨⟨_, _, ps1, q1, RA1, RL1⟩, ⟨_, _, ps2, q2, RA2, RL2⟩⟩ := hKn he0
        cases q1
        cases q2
        have hS1 := rSk_len729 SV 1
        have hS2 := rSk_len729 SV 2
        refine xp_skip ?_
        refine xp_seq ?_
        refine xp_region rfl ?_
        refine op_pure (pv_fieldAddr rfl rfl rfl rfl 2 rfl) ?_
        refine op_loadP 0 (v := .slice _ _ _) rfl rfl rfl rfl ?_
        refine op_pure (pv_len rfl rfl) ?_
        refine op_pure (pv_build (zc := [_, _]) (vs := [(0, .int .i64 _)]) (cs := [_, _]) rfl rfl rfl rfl rfl rfl) ?_
        refine op_alloc (cs := [_, _]) rfl rfl fun b10 hb10 => ?_
        refine wp_norm [_, _, _] rfl ?_
        refine op_storeP 2 (v := .agg #[.int .i64 _, .int .i64 _]) (vs := [_, _]) (c' := [_, _]) rfl rfl rfl rfl rfl rfl rfl rfl rfl ?_
        refine wp_norm [_, _, _] rfl ?_
        refine xp_seq ?_
        refine xp_seq ?_
        refine xp_region rfl ?_
        refine op_pure (pv_assign (v := .int .i64 _) rfl) ?_
        refine xp_block ?_
        refine xp_loopL [11, 12, 13, 14, 15, 16, 45, 46, 47, 48, 49, 50, 51, 52, 53, 54, 55, 56, 57, 58, 59, 60, 61, 62, 63, 64, 65, 66, 67, 68, 69, 70, 71, 72, 73, 74, 75, 76, 77, 78, 79, 80, 81, 82, 83, 84, 85, 86, 87, 88, 89, 90, 91, 92, 93, 94, 95, 96, 97, 98, 99] 3 (α := Nat) (fun i => [(11, .int .i64 i)]) (fun i L => L.set 2 (some (b10, .cells #[.int .i64 (soundLo s w (gone s i 0) : Nat), .int .i64 (soundHi s w (gone s i 0) : Nat)] 51 (0, 0)))) (fun i h_i => i ≤ (rSk s 1).length) (fun i => (rSk s 1).length - i) (0) ⟨rfl, trivial⟩ (rfl) (Nat.zero_le _) ?_
        rintro i T1 h_i E_i J_i
        refine goes_norm [_, _, _] rfl ?_
        refine xp_seq ?_
        refine xp_seq ?_
        refine xp_region rfl ?_
        refine op_pure (pv_move (v := .int .i64 _) rfl) ?_
        refine op_pure (pv_move (v := .slice _ _ _) rfl) ?_
        refine op_pure (pv_len rfl rfl) ?_
        refine op_pure (pv_of (v := .bool _) rfl) ?_
        refine xp_cond rfl (fun hi => ?_) (fun hi => ?_)
        · skip
          have hil : i < (rSk s 1).length := ltI hi
          have hx : (rSk s 1)[i] ∈ rSk s 1 := List.getElem_mem hil
          have hgx : (rSk s 1).getD i [] = (rSk s 1)[i] := by rw [List.getD_eq_getElem?_getD, List.getElem?_eq_getElem hil]; rfl
          refine xp_skip ?_
          refine xp_seq ?_
          refine xp_block ?_
          refine xp_seq ?_
          refine xp_region rfl ?_
          refine op_pure (pv_assign (v := .int .i64 _) rfl) ?_
          refine xp_block ?_
          refine xp_loopL [12, 13, 14, 15, 16, 51, 52, 53, 54, 55, 56, 57, 58, 59, 60, 61, 62, 63, 64, 65, 66, 67, 68, 69, 70, 71, 72, 73, 74, 75, 76, 77, 78, 79, 80, 81, 82, 83, 84, 85, 86, 87, 88, 89, 90, 91, 92, 93, 94, 95, 96, 97, 98, 99] 3 (α := Nat) (fun k => [(12, .int .i64 k)]) (fun k L => L.set 2 (some (b10, .cells #[.int .i64 (soundLo s w (gone s i k) : Nat), .int .i64 (soundHi s w (gone s i k) : Nat)] 51 (0, 0)))) (fun k h_k => k ≤ (rSk s 2).length) (fun k => (rSk s 2).length - k) (0) ⟨rfl, trivial⟩ (rfl) (Nat.zero_le _) ?_
          rintro k T2 h_k E_k J_k
          refine goes_norm [_, _, _] rfl ?_
          refine xp_seq ?_
          refine xp_seq ?_
          refine xp_region rfl ?_
          refine op_pure (pv_move (v := .int .i64 _) rfl) ?_
          refine op_pure (pv_move (v := .slice _ _ _) rfl) ?_
          refine op_pure (pv_len rfl rfl) ?_
          refine op_pure (pv_of (v := .bool _) rfl) ?_
          refine xp_cond rfl (fun hk2 => ?_) (fun hk2 => ?_)
          · skip
            have hkl : k < (rSk s 2).length := ltI hk2
            have hy : (rSk s 2)[k] ∈ rSk s 2 := List.getElem_mem hkl
            obtain ⟨gx, ox, AX1, cX1, AF1, cF1, vF1, hBx, hcx, RF1, LF1⟩ := rec_cells RA1 RL1 (Ext.trans E_i E_k) hil
            obtain ⟨gy, oy, AX2, cX2, AF2, cF2, vF2, hBy, hcy, RF2, LF2⟩ := rec_cells RA2 RL2 (Ext.trans E_i E_k) hkl
            refine xp_skip ?_
            refine xp_seq ?_
            refine xp_block ?_
            refine xp_seq ?_
            refine xp_dw [] rfl rfl rfl ?_
            refine dw_load (i := 0) rfl (by decide +kernel) ?_
            refine op_loadPA 0 (vs := [.slice _ _ _, .slice _ _ _, .slice _ _ _, .slice _ _ _]) rfl rfl rfl rfl rfl ?_
            refine dw_pure (i := 1) rfl (by decide +kernel) (pv_move (v := .slice _ _ _) rfl) ?_
            refine dw_pure (i := 2) rfl (by decide +kernel) (pv_move (v := .int .i64 _) rfl) ?_
            refine dw_pure (i := 3) rfl (by decide +kernel) (pv_indexE rfl hBx rfl rfl rfl (by omega) (by omega)) ?_
            refine dw_load (i := 4) rfl (by decide +kernel) ?_
            refine op_loadA rfl rfl rfl rfl (hcx) ?_
            refine dw_pure (i := 5) rfl (by decide +kernel) (pv_move (v := .slice _ _ _) rfl) ?_
            refine dw_pure (i := 6) rfl (by decide +kernel) (pv_move (v := .int .i64 _) rfl) ?_
            refine dw_pure (i := 7) rfl (by decide +kernel) (pv_indexE rfl hBy rfl rfl rfl (by omega) (by omega)) ?_
            refine dw_load (i := 8) rfl (by decide +kernel) ?_
            refine op_loadA rfl rfl rfl rfl (hcy) ?_
            refine dw_last (i := 9) rfl (by decide +kernel) (by decide +kernel) ?_
            refine op_fn (caps := []) (vs := [.agg #[.slice _ _ _, .slice _ _ _, .slice _ _ _, .slice _ _ _], .agg #[.slice _ _ _, .slice _ _ _], .agg #[.slice _ _ _, .slice _ _ _]]) rfl rfl rfl (rWeeksOf_ok s SV hx hy AX1 AF1 AX2 AF2 cX1 cF1 cX2 cF2 _ _ vF1 vF2 A0 A1 A2 A3 c0 c1 c2 c3 h_k (R.ext (Ext.trans (Ext.trans (Ext.trans (Ext.trans E1 E2) E3) E_i) E_k)) RF1 LF1 RF2 LF2) ?_
            rintro _ h5 E5 ⟨AW, cW, rfl, RW⟩
            have hwl2 := weeksL_len s (rSk s 1)[i] (rSk s 2)[k]
            refine dw_pure (i := 10) rfl (by decide +kernel) (pv_assign (v := .slice _ _ _) rfl) ?_
            refine dw_end rfl ?_
            refine xp_seq ?_
            refine xp_region rfl ?_
            refine op_pure (pv_assign (v := .int .i64 _) rfl) ?_
            refine op_pure (pv_assign (v := .int .i64 _) rfl) ?_
            refine xp_seq ?_
            refine xp_seq ?_
            refine xp_region rfl ?_
            refine op_pure (pv_assign (v := .int .i64 _) rfl) ?_
            refine xp_block ?_
            refine xp_loopB [14, 15, 16, 67, 68, 69, 70, 71, 72, 73, 74, 75, 76, 77, 78, 79, 80, 81, 82, 83, 84, 85, 86, 87, 88, 89, 90] 3 (α := Nat) (fun j => [(14, .int .i64 (lsN s (rSk s 1)[i] (rSk s 2)[k] w j : Nat)), (15, .int .i64 (msN s (rSk s 1)[i] (rSk s 2)[k] w j : Nat)), (16, .int .i64 j)]) (fun j => _) (fun j h_j => j ≤ s.joints.length) (fun j => s.joints.length - j) (0) ⟨rfl, rfl, rfl, trivial⟩ (rfl) (Nat.zero_le _) ?_
            rintro j T3 h_j E_j J_j
            refine goes_norm [_, _, _] rfl ?_
            have hls := lsN_le (s := s) (x := (rSk s 1)[i]) (y := (rSk s 2)[k]) (w : Int) j
            refine xp_seq ?_
            refine xp_seq ?_
            refine xp_region rfl ?_
            refine op_pure (pv_move (v := .int .i64 _) rfl) ?_
            refine op_pure (pv_move (v := .slice _ _ _) rfl) ?_
            refine op_pure (pv_len rfl rfl) ?_
            refine op_pure (pv_of (v := .bool _) rfl) ?_
            refine xp_cond rfl (fun hj => ?_) (fun hj => ?_)
            · skip
              have hjl : j < s.joints.length := by have := of_decide_eq_true hj; omega
              obtain ⟨gj, oj, hBj, hcj⟩ := (RW.ext E_j).at (by omega) (show j < (weeksL s (rSk s 1)[i] (rSk s 2)[k]).length by omega)
              rw [weeksL_at] at hcj
              have hcj0 := hcj 0 (.int .i64 (fR (jlL s (rSk s 1)[i] (rSk s 2)[k] j)).mn) rfl
              have hcj1 := hcj 1 (.int .i64 (fR (jlL s (rSk s 1)[i] (rSk s 2)[k] j)).mx) rfl
              refine xp_skip ?_
              refine xp_seq ?_
              refine xp_block ?_
              refine xp_seq ?_
              refine xp_seq ?_
              refine xp_region rfl ?_
              refine op_pure (pv_move (v := .slice _ _ _) rfl) ?_
              refine op_pure (pv_move (v := .int .i64 _) rfl) ?_
              refine op_pure (pv_indexE rfl hBj rfl rfl rfl (by omega) (by omega)) ?_
              refine op_pure (pv_fieldAddr rfl rfl rfl rfl _ rfl) ?_
              refine op_load (v := .int .i64 _) rfl rfl hcj0 ?_
              refine op_pure (pv_move (v := .int .i64 _) rfl) ?_
              refine op_pure (pv_of (v := .bool _) rfl) ?_
              refine xp_cond rfl (fun g1' => ?_) (fun g1' => ?_)
              · skip
                have g1 : (fR (jlL s (rSk s 1)[i] (rSk s 2)[k] j)).mn > (w : Int) := of_decide_eq_true g1'
                refine xp_region rfl ?_
                refine op_pure (pv_move (v := .int .i64 _) rfl) ?_
                refine op_pure (pv_arith rfl (by omega)) ?_
                refine op_pure (pv_assign (v := .int .i64 _) rfl) ?_
                refine xp_seq ?_
                refine xp_region rfl ?_
                refine op_pure (pv_move (v := .slice _ _ _) rfl) ?_
                refine op_pure (pv_move (v := .int .i64 _) rfl) ?_
                refine op_pure (pv_indexE rfl hBj rfl rfl rfl (by omega) (by omega)) ?_
                refine op_pure (pv_fieldAddr rfl rfl rfl rfl _ rfl) ?_
                refine op_load (v := .int .i64 _) rfl rfl hcj1 ?_
                refine op_pure (pv_move (v := .int .i64 _) rfl) ?_
                refine op_pure (pv_of (v := .bool _) rfl) ?_
                refine xp_cond rfl (fun g2' => ?_) (fun g2' => ?_)
                · skip
                  have g2 : (fR (jlL s (rSk s 1)[i] (rSk s 2)[k] j)).mx > (w : Int) := of_decide_eq_true g2'
                  refine xp_region rfl ?_
                  refine op_pure (pv_move (v := .int .i64 _) rfl) ?_
                  refine op_pure (pv_arith rfl (by omega)) ?_
                  refine op_pure (pv_assign (v := .int .i64 _) rfl) ?_
                  refine xp_region rfl ?_
                  refine op_pure (pv_move (v := .int .i64 _) rfl) ?_
                  refine op_pure (pv_arith rfl (by omega)) ?_
                  refine op_pure (pv_assign (v := .int .i64 _) rfl) ?_
                  refine ⟨j + 1, ⟨(by rw [lsN, if_pos g1]; rfl), (by rw [msN, if_pos g2]; rfl), rfl, trivial⟩, rfl, rfl, E_j, fun h3 E3 => hjl, by first | omega | (dsimp only; omega), ?_⟩
                  repeat (first | exact off_base _ _ _ | refine off_upd (by decide) ?_ | refine off_updL rfl ?_ | refine off_mix rfl ?_)
                · skip
                  have g2 : ¬ (fR (jlL s (rSk s 1)[i] (rSk s 2)[k] j)).mx > (w : Int) := of_decide_eq_false g2'
                  refine xp_skip ?_
                  refine xp_region rfl ?_
                  refine op_pure (pv_move (v := .int .i64 _) rfl) ?_
                  refine op_pure (pv_arith rfl (by omega)) ?_
                  refine op_pure (pv_assign (v := .int .i64 _) rfl) ?_
                  refine ⟨j + 1, ⟨(by rw [lsN, if_pos g1]; rfl), (by rw [msN, if_neg g2, Nat.add_zero]; rfl), rfl, trivial⟩, rfl, rfl, E_j, fun h3 E3 => hjl, by first | omega | (dsimp only; omega), ?_⟩
                  repeat (first | exact off_base _ _ _ | refine off_upd (by decide) ?_ | refine off_updL rfl ?_ | refine off_mix rfl ?_)
              · skip
                have g1 : ¬ (fR (jlL s (rSk s 1)[i] (rSk s 2)[k] j)).mn > (w : Int) := of_decide_eq_false g1'
                refine xp_skip ?_
                refine xp_seq ?_
                refine xp_region rfl ?_
                refine op_pure (pv_move (v := .slice _ _ _) rfl) ?_
                refine op_pure (pv_move (v := .int .i64 _) rfl) ?_
                refine op_pure (pv_indexE rfl hBj rfl rfl rfl (by omega) (by omega)) ?_
                refine op_pure (pv_fieldAddr rfl rfl rfl rfl _ rfl) ?_
                refine op_load (v := .int .i64 _) rfl rfl hcj1 ?_
                refine op_pure (pv_move (v := .int .i64 _) rfl) ?_
                refine op_pure (pv_of (v := .bool _) rfl) ?_
                refine xp_cond rfl (fun g2' => ?_) (fun g2' => ?_)
                · skip
                  have g2 : (fR (jlL s (rSk s 1)[i] (rSk s 2)[k] j)).mx > (w : Int) := of_decide_eq_true g2'
                  refine xp_region rfl ?_
                  refine op_pure (pv_move (v := .int .i64 _) rfl) ?_
                  refine op_pure (pv_arith rfl (by omega)) ?_
                  refine op_pure (pv_assign (v := .int .i64 _) rfl) ?_
                  refine xp_region rfl ?_
                  refine op_pure (pv_move (v := .int .i64 _) rfl) ?_
                  refine op_pure (pv_arith rfl (by omega)) ?_
                  refine op_pure (pv_assign (v := .int .i64 _) rfl) ?_
                  refine ⟨j + 1, ⟨(by rw [lsN, if_neg g1, Nat.add_zero]; rfl), (by rw [msN, if_pos g2]; rfl), rfl, trivial⟩, rfl, rfl, E_j, fun h3 E3 => hjl, by first | omega | (dsimp only; omega), ?_⟩
                  repeat (first | exact off_base _ _ _ | refine off_upd (by decide) ?_ | refine off_updL rfl ?_ | refine off_mix rfl ?_)
                · skip
                  have g2 : ¬ (fR (jlL s (rSk s 1)[i] (rSk s 2)[k] j)).mx > (w : Int) := of_decide_eq_false g2'
                  refine xp_skip ?_
                  refine xp_region rfl ?_
                  refine op_pure (pv_move (v := .int .i64 _) rfl) ?_
                  refine op_pure (pv_arith rfl (by omega)) ?_
                  refine op_pure (pv_assign (v := .int .i64 _) rfl) ?_
                  refine ⟨j + 1, ⟨(by rw [lsN, if_neg g1, Nat.add_zero]; rfl), (by rw [msN, if_neg g2, Nat.add_zero]; rfl), rfl, trivial⟩, rfl, rfl, E_j, fun h3 E3 => hjl, by first | omega | (dsimp only; omega), ?_⟩
                  repeat (first | exact off_base _ _ _ | refine off_upd (by decide) ?_ | refine off_updL rfl ?_ | refine off_mix rfl ?_)
            · skip
              have hje : j = s.joints.length := by have := of_decide_eq_false hj; omega
              subst hje
              obtain ⟨m1, m2⟩ := must_eq SV hx hy hwl s.joints.length (Nat.le_refl _)
              have hlo : ((soundLo s w (gone s i (k + 1)) : Nat) : Int) = min ((soundLo s w (gone s i k) : Nat) : Int) ((lsN s (rSk s 1)[i] (rSk s 2)[k] w s.joints.length : Nat) : Int) := by
                rw [gone_step hkl, hgx, soundLo_snoc, m1]; omega
              have hhi : ((soundHi s w (gone s i (k + 1)) : Nat) : Int) = max ((soundHi s w (gone s i k) : Nat) : Int) ((msN s (rSk s 1)[i] (rSk s 2)[k] w s.joints.length : Nat) : Int) := by
                rw [gone_step hkl, hgx, soundHi_snoc, m2]; omega
              refine xp_exit ?_
              refine xp_region rfl ?_
              refine op_pure (pv_fieldAddr rfl rfl rfl rfl 0 rfl) ?_
              refine op_loadP 2 (v := .int .i64 _) rfl rfl rfl rfl ?_
              refine op_pure (pv_move (v := .int .i64 _) rfl) ?_
              refine op_pure (pv_min rfl rfl) ?_
              refine op_pure (pv_fieldAddr rfl rfl rfl rfl 1 rfl) ?_
              refine op_loadP 2 (v := .int .i64 _) rfl rfl rfl rfl ?_
              refine op_pure (pv_move (v := .int .i64 _) rfl) ?_
              refine op_pure (pv_max rfl rfl) ?_
              refine op_pure (pv_build (zc := [_, _]) (vs := [(0, .int .i64 _), (1, .int .i64 _)]) (cs := [_, _]) rfl rfl rfl rfl rfl rfl) ?_
              refine op_storeP 2 (v := .agg #[.int .i64 _, .int .i64 _]) (vs := [_, _]) (c' := [_, _]) rfl rfl rfl rfl rfl rfl rfl rfl rfl ?_
              refine wp_norm [_, _, _] rfl ?_
              refine xp_region rfl ?_
              refine op_pure (pv_move (v := .int .i64 _) rfl) ?_
              refine op_pure (pv_arith rfl (by omega)) ?_
              refine op_pure (pv_assign (v := .int .i64 _) rfl) ?_
              refine ⟨k + 1, ⟨rfl, trivial⟩, rfl, by rw [hlo, hhi]; rfl, (Ext.trans (Ext.trans E_k E5) E_j), fun h3 E3 => hkl, by first | omega | (dsimp only; omega), ?_⟩
              repeat (first | exact off_base _ _ _ | refine off_upd (by decide) ?_ | refine off_updL rfl ?_ | refine off_mix rfl ?_)
          · skip
            have hke : k = (rSk s 2).length := by have := geI hk2; omega
            subst hke
            refine xp_exit ?_
            refine xp_region rfl ?_
            refine op_pure (pv_move (v := .int .i64 _) rfl) ?_
            refine op_pure (pv_arith rfl (by omega)) ?_
            refine op_pure (pv_assign (v := .int .i64 _) rfl) ?_
            refine ⟨i + 1, ⟨rfl, trivial⟩, rfl, by rw [gone_next hil]; rfl, (Ext.trans E_i E_k), fun h3 E3 => hil, by first | omega | (dsimp only; omega), ?_⟩
            repeat (first | exact off_base _ _ _ | refine off_upd (by decide) ?_ | refine off_updL rfl ?_ | refine off_mix rfl ?_)
        · skip
          have hie : i = (rSk s 1).length := by have := geI hi; omega
          subst hie
          rw [gone_all SV]
          refine xp_exit ?_
          refine xp_seq ?_
          refine xp_region rfl ?_
          refine op_loadPA 2 (vs := [.int .i64 _, .int .i64 _]) rfl rfl rfl rfl rfl ?_
          refine op_storeP 1 (v := .agg #[.int .i64 _, .int .i64 _]) (vs := [_, _]) (c' := [_, _]) rfl rfl rfl rfl rfl rfl rfl rfl rfl ?_
          refine wp_norm [_, _, _] rfl ?_
          refine op_pure (pv_assign (v := .int .i64 _) rfl) ?_
          refine xp_ret ?_
          refine res_list (vs := [_, _]) Try.results46 ⟨resV_agg 1 rfl rfl rfl rfl rfl (vs := [.int .i64 _, .int .i64 _]) rfl, resV_tmp rfl rfl, trivial⟩ fun V => ?_
          exact ⟨(Ext.trans (Ext.trans (Ext.trans (Ext.trans E1 E2) E3) E_i) (ext_wl V)), by rw [hV, hE, he0]; rfl⟩
end Go.Proofs.Ytndfkbapoinmkaa
/- Walks: the law on what truly is so. Conditions: as each theorem states. -/
namespace Go.Proofs.Ytndfkbapoinmkaa
open Go Go.HL Go.Proofs Go.Wx Go.RowKit
set_option maxRecDepth 100000
end Go.Proofs.Ytndfkbapoinmkaa
/- Walks: the law on what is known better. Conditions: as each theorem states. -/
namespace Go.Proofs.Ytndfkbapoinmkaa
open Go Go.HL Go.Proofs Go.Wx Go.RowKit
set_option maxRecDepth 100000
structure BetA where
  y : Nat
  xs : Season
  X0 : Option Addr
  X1 : Option Addr
  X2 : Option Addr
  X3 : Option Addr
  k0 : Nat
  k1 : Nat
  k2 : Nat
  k3 : Nat
end Go.Proofs.Ytndfkbapoinmkaa
/- Walks: which seasons are gone through; a season copied. Conditions: as each theorem states. -/
namespace Go.Proofs.Ytndfkbapoinmkaa
open Go Go.HL Go.Proofs Go.Wx
set_option maxRecDepth 100000
set_option maxHeartbeats 1000000 in
theorem CopySeasonT_ok (s : Season) (A0 A1 A2 A3 : Option Addr) (c0 c1 c2 c3 : Nat) (h : AH) (R : SeasonR h A0 A1 A2 A3 s) (h0 : s.heats.length < 2 ^ 20) (h1 : s.damps.length < 2 ^ 20) (h2 : s.joints.length < 2 ^ 20) (h3 : s.reports.length < 2 ^ 20) :
    FnT Try.prog 23 #[seasonV A0 A1 A2 A3 c0 c1 c2 c3 s] h (fun v h' => SeasonS h' s v) := by
  refine call_body Try.func23 rfl Try.ntmps23 rfl ?_
  refine xp_seq ?_
  refine xp_region rfl ?_
  refine op_box (v := .agg #[.slice _ _ _, .slice _ _ _, .slice _ _ _, .slice _ _ _]) (cs := [_, _, _, _]) rfl rfl fun b1 hb1 => ?_
  refine wp_norm [_] rfl ?_
  refine op_alloc (cs := [_, _, _, _]) rfl rfl fun b2 hb2 => ?_
  refine wp_norm [_, _] rfl ?_
  refine xp_seq ?_
  refine xp_dw [false, false, true, true, true, true] rfl rfl rfl ?_
  refine dw_pure (i := 0) rfl (by decide +kernel) (pv_fieldAddr rfl rfl rfl rfl 0 rfl) ?_
  refine dw_load (i := 1) rfl (by decide +kernel) ?_
  refine op_loadP 0 (v := .slice _ _ _) rfl rfl rfl rfl ?_
  refine dw_pure (i := 3) rfl (by decide +kernel) (pv_fieldAddr rfl rfl rfl rfl 1 rfl) ?_
  refine dw_load (i := 4) rfl (by decide +kernel) ?_
  refine op_loadP 0 (v := .slice _ _ _) rfl rfl rfl rfl ?_
  refine dw_pure (i := 7) rfl (by decide +kernel) (pv_fieldAddr rfl rfl rfl rfl 2 rfl) ?_
  refine dw_load (i := 8) rfl (by decide +kernel) ?_
  refine op_loadP 0 (v := .slice _ _ _) rfl rfl rfl rfl ?_
  refine dw_pure (i := 11) rfl (by decide +kernel) (pv_fieldAddr rfl rfl rfl rfl 3 rfl) ?_
  refine dw_load (i := 12) rfl (by decide +kernel) ?_
  refine op_loadP 0 (v := .slice _ _ _) rfl rfl rfl rfl ?_
  refine dw_eff (i := 2) rfl (by decide +kernel) ?_
  refine op_fnMM [_, _] [] [] rfl rfl rfl (Ranges_ok s.heats A0 c0 h (R.heats.ext (Ext.refl _)) h0) ?_
  rintro _ g0 _ G0 ⟨a0, rfl, rfl, ha0⟩
  refine ⟨ext_wlm G0 _, ?_⟩
  refine dw_norm [_, _, _] rfl ?_
  refine dw_pure (i := 14) rfl (by decide +kernel) (pv_fieldAddr rfl rfl rfl rfl 0 rfl) ?_
  refine dw_eff (i := 5) rfl (by decide +kernel) ?_
  refine op_fnMM [_, _, _] [] [] rfl rfl rfl (Ranges_ok s.damps A1 c1 g0 (R.damps.ext G0) h1) ?_
  rintro _ g1 _ G1 ⟨a1, rfl, rfl, ha1⟩
  refine ⟨ext_wlm G1 _, ?_⟩
  refine dw_norm [_, _, _, _] rfl ?_
  refine dw_eff (i := 6) rfl (by decide +kernel) ?_
  refine op_buildSlice (zc := [_, _, _, _, _, _, _, _, _]) (vs := []) (cs := []) rfl rfl rfl rfl rfl rfl rfl fun b9 hb9 => ?_
  refine ⟨ext_newM hb9 _, ?_⟩
  refine dw_norm [_, _, _, _, _] rfl ?_
  refine dw_eff (i := 9) rfl (by decide +kernel) ?_
  refine op_appendR 4 accR_new rfl rfl rfl (fun V => R.joints.2.ext (Ext.trans (Ext.trans G0 G1) (ext_wl V))) (flat_len R.joints.1) (flat_plain jointP s.joints) rfl rfl rfl rfl rfl rfl rfl (by omega) rfl (by rw [flat_len R.joints.1, List.length_nil]; omega) fun a2 h1a E1a ha2 => ?_
  refine ⟨ext_wlm E1a _, ?_⟩
  refine dw_norm [_, _, _, _, _] rfl ?_
  refine dw_eff (i := 10) rfl (by decide +kernel) ?_
  refine op_buildSlice (zc := [_, _, _]) (vs := []) (cs := []) rfl rfl rfl rfl rfl rfl rfl fun b13 hb13 => ?_
  refine ⟨ext_newM hb13 _, ?_⟩
  refine dw_norm [_, _, _, _, _, _] rfl ?_
  refine dw_last (i := 13) rfl (by decide +kernel) (by decide +kernel) ?_
  refine op_appendR 5 accR_new rfl rfl rfl (fun V => R.reports.2.ext (Ext.trans (Ext.trans (Ext.trans G0 G1) E1a) (ext_wl V))) (flat_len R.reports.1) (flat_plain seenP s.reports) rfl rfl rfl rfl rfl rfl rfl (by omega) rfl (by rw [flat_len R.reports.1, List.length_nil]; omega) fun a3 h2a E2a ha3 => ?_
  refine dw_norm [_, _, _, _, _, _] rfl ?_
  refine dw_last (i := 15) rfl (by decide +kernel) (by decide +kernel) ?_
  refine op_storeP 0 (v := .slice _ _ _) (vs := [_]) (c' := [_, _, _, _]) rfl rfl rfl rfl rfl rfl rfl rfl rfl ?_
  refine dw_norm [_, _, _, _, _, _] rfl ?_
  refine dw_pure (i := 16) rfl (by decide +kernel) (pv_fieldAddr rfl rfl rfl rfl 1 rfl) ?_
  refine dw_last (i := 17) rfl (by decide +kernel) (by decide +kernel) ?_
  refine op_storeP 0 (v := .slice _ _ _) (vs := [_]) (c' := [_, _, _, _]) rfl rfl rfl rfl rfl rfl rfl rfl rfl ?_
  refine dw_norm [_, _, _, _, _, _] rfl ?_
  refine dw_pure (i := 18) rfl (by decide +kernel) (pv_fieldAddr rfl rfl rfl rfl 2 rfl) ?_
  refine dw_last (i := 19) rfl (by decide +kernel) (by decide +kernel) ?_
  refine op_storeP 0 (v := .slice _ _ _) (vs := [_]) (c' := [_, _, _, _]) rfl rfl rfl rfl rfl rfl rfl rfl rfl ?_
  refine dw_norm [_, _, _, _, _, _] rfl ?_
  refine dw_pure (i := 20) rfl (by decide +kernel) (pv_fieldAddr rfl rfl rfl rfl 3 rfl) ?_
  refine dw_last (i := 21) rfl (by decide +kernel) (by decide +kernel) ?_
  refine op_storeP 0 (v := .slice _ _ _) (vs := [_]) (c' := [_, _, _, _]) rfl rfl rfl rfl rfl rfl rfl rfl rfl ?_
  refine dw_norm [_, _, _, _, _, _] rfl ?_
  refine dw_end rfl ?_
  refine xp_seq ?_
  refine xp_region rfl ?_
  refine op_loadPA 0 (vs := [.slice _ _ _, .slice _ _ _, .slice _ _ _, .slice _ _ _]) rfl rfl rfl rfl rfl ?_
  refine op_storeP 1 (v := .agg #[.slice _ _ _, .slice _ _ _, .slice _ _ _, .slice _ _ _]) (vs := [_, _, _, _]) (c' := [_, _, _, _]) rfl rfl rfl rfl rfl rfl rfl rfl rfl ?_
  refine wp_norm [_, _, _, _, _, _] rfl ?_
  rw [List.nil_append] at ha2 ha3
  refine goes_pubO 2 rfl ?_
  intro k0 K0 P0
  refine goes_norm [_, _, _, _, _, _] rfl ?_
  refine goes_pubO 3 rfl ?_
  intro k1 K1 P1
  refine goes_norm [_, _, _, _, _, _] rfl ?_
  refine goes_pubO 4 rfl ?_
  intro k2 K2 P2
  refine goes_norm [_, _, _, _, _, _] rfl ?_
  refine goes_pubO 5 rfl ?_
  intro k3 K3 P3
  refine goes_norm [_, _, _, _, _, _] rfl ?_
  have n0 : a0.n = s.heats.length := by have := AccR.len ha0; rw [flat_len (m := 2) (fun _ _ => rfl)] at this; omega
  have n1 : a1.n = s.damps.length := by have := AccR.len ha1; rw [flat_len (m := 2) (fun _ _ => rfl)] at this; omega
  have n2 : a2.n = s.joints.length := by have := AccR.len ha2; rw [flat_len (m := 9) (fun _ _ => rfl)] at this; omega
  have n3 : a3.n = s.reports.length := by have := AccR.len ha3; rw [flat_len (m := 3) (fun _ _ => rfl)] at this; omega
  refine xp_ret ?_
  refine res_list (vs := [_]) Try.results23 ⟨resV_agg 1 rfl rfl rfl rfl rfl (vs := [.slice _ _ _, .slice _ _ _, .slice _ _ _, .slice _ _ _]) rfl, trivial⟩ fun V => ?_
  refine ⟨(Ext.trans (Ext.trans (Ext.trans (Ext.trans (Ext.trans (Ext.trans (Ext.trans (Ext.trans G0 G1) E1a) E2a) K0) K1) K2) K3) (ext_wl V)), a0.A, a1.A, a2.A, a3.A, a0.c, a1.c, a2.c, a3.c, ?_, ⟨⟨fun _ _ => rfl, (AccR.rd ha0 P0).ext (Ext.trans (Ext.trans (Ext.trans K1 K2) K3) (ext_wl V))⟩, ⟨fun _ _ => rfl, (AccR.rd ha1 P1).ext (Ext.trans (Ext.trans K2 K3) (ext_wl V))⟩, ⟨fun _ _ => rfl, (AccR.rd ha2 P2).ext (Ext.trans K3 (ext_wl V))⟩, ⟨fun _ _ => rfl, (AccR.rd ha3 P3).ext (ext_wl V)⟩⟩⟩
  unfold seasonV
  rw [← n0, ← n1, ← n2, ← n3]
  rfl
theorem many_ok (s : Season) (A0 A1 A2 A3 : Option Addr) (c0 c1 c2 c3 : Nat) (h : AH) :
    FnT Try.prog 71 #[seasonV A0 A1 A2 A3 c0 c1 c2 c3 s] h (fun v _ => ∃ b, v = .bool b ∧ (b = false → s.heats.length ≤ 20 ∧ s.damps.length ≤ 20 ∧ s.joints.length ≤ 20 ∧ s.reports.length ≤ 20)) := by
  refine call_body Try.func71 rfl Try.ntmps71 rfl ?_
  refine xp_seq ?_
  refine xp_region rfl ?_
  refine op_box (v := .agg #[.slice _ _ _, .slice _ _ _, .slice _ _ _, .slice _ _ _]) (cs := [_, _, _, _]) rfl rfl fun b1 hb1 => ?_
  refine wp_norm [_] rfl ?_
  refine op_pure (pv_assign (v := .bool _) rfl) ?_
  refine xp_seq ?_
  refine xp_region rfl ?_
  refine op_pure (pv_fieldAddr rfl rfl rfl rfl 0 rfl) ?_
  refine op_loadP 0 (v := .slice _ _ _) rfl rfl rfl rfl ?_
  refine op_pure (pv_len rfl rfl) ?_
  refine op_pure (pv_of (v := .bool _) rfl) ?_
  refine op_pure (pv_move (v := .bool _) rfl) ?_
  rcases Bool.eq_false_or_eq_true (decide ((s.heats.length : Int) > 20)) with e1 | e1
  · skip
    refine guard_no rfl e1 ?_
    refine guard_no rfl e1 ?_
    refine guard_no rfl e1 ?_
    refine guard_no rfl e1 ?_
    refine op_pure (pv_pickT rfl e1 (v := .bool _) rfl) ?_
    refine op_pure (pv_move (v := .bool _) rfl) ?_
    refine guard_no rfl rfl ?_
    refine guard_no rfl rfl ?_
    refine guard_no rfl rfl ?_
    refine guard_no rfl rfl ?_
    refine op_pure (pv_pickT rfl rfl (v := .bool _) rfl) ?_
    refine op_pure (pv_move (v := .bool _) rfl) ?_
    refine guard_no rfl rfl ?_
    refine guard_no rfl rfl ?_
    refine guard_no rfl rfl ?_
    refine guard_no rfl rfl ?_
    refine op_pure (pv_pickT rfl rfl (v := .bool _) rfl) ?_
    refine op_pure (pv_assign (v := .bool _) rfl) ?_
    refine xp_ret ?_
    refine res_list (vs := [_]) Try.results71 ⟨resV_tmp rfl rfl, trivial⟩ fun V => ?_
    exact ⟨(ext_wl V), true, rfl, fun h => by cases h⟩
  · skip
    refine guard_yes rfl e1 ?_
    refine op_pure (pv_fieldAddr rfl rfl rfl rfl 1 rfl) ?_
    refine guard_yes rfl e1 ?_
    refine op_loadP 0 (v := .slice _ _ _) rfl rfl rfl rfl ?_
    refine guard_yes rfl e1 ?_
    refine op_pure (pv_len rfl rfl) ?_
    refine guard_yes rfl e1 ?_
    refine op_pure (pv_of (v := .bool _) rfl) ?_
    refine op_pure (pv_pickF rfl e1 (v := .bool _) rfl) ?_
    refine op_pure (pv_move (v := .bool _) rfl) ?_
    rcases Bool.eq_false_or_eq_true (decide ((s.damps.length : Int) > 20)) with e2 | e2
    · skip
      refine guard_no rfl e2 ?_
      refine guard_no rfl e2 ?_
      refine guard_no rfl e2 ?_
      refine guard_no rfl e2 ?_
      refine op_pure (pv_pickT rfl e2 (v := .bool _) rfl) ?_
      refine op_pure (pv_move (v := .bool _) rfl) ?_
      refine guard_no rfl rfl ?_
      refine guard_no rfl rfl ?_
      refine guard_no rfl rfl ?_
      refine guard_no rfl rfl ?_
      refine op_pure (pv_pickT rfl rfl (v := .bool _) rfl) ?_
      refine op_pure (pv_assign (v := .bool _) rfl) ?_
      refine xp_ret ?_
      refine res_list (vs := [_]) Try.results71 ⟨resV_tmp rfl rfl, trivial⟩ fun V => ?_
      exact ⟨(ext_wl V), true, rfl, fun h => by cases h⟩
    · skip
      refine guard_yes rfl e2 ?_
      refine op_pure (pv_fieldAddr rfl rfl rfl rfl 2 rfl) ?_
      refine guard_yes rfl e2 ?_
      refine op_loadP 0 (v := .slice _ _ _) rfl rfl rfl rfl ?_
      refine guard_yes rfl e2 ?_
      refine op_pure (pv_len rfl rfl) ?_
      refine guard_yes rfl e2 ?_
      refine op_pure (pv_of (v := .bool _) rfl) ?_
      refine op_pure (pv_pickF rfl e2 (v := .bool _) rfl) ?_
      refine op_pure (pv_move (v := .bool _) rfl) ?_
      rcases Bool.eq_false_or_eq_true (decide ((s.joints.length : Int) > 20)) with e3 | e3
      · skip
        refine guard_no rfl e3 ?_
        refine guard_no rfl e3 ?_
        refine guard_no rfl e3 ?_
        refine guard_no rfl e3 ?_
        refine op_pure (pv_pickT rfl e3 (v := .bool _) rfl) ?_
        refine op_pure (pv_assign (v := .bool _) rfl) ?_
        refine xp_ret ?_
        refine res_list (vs := [_]) Try.results71 ⟨resV_tmp rfl rfl, trivial⟩ fun V => ?_
        exact ⟨(ext_wl V), true, rfl, fun h => by cases h⟩
      · skip
        refine guard_yes rfl e3 ?_
        refine op_pure (pv_fieldAddr rfl rfl rfl rfl 3 rfl) ?_
        refine guard_yes rfl e3 ?_
        refine op_loadP 0 (v := .slice _ _ _) rfl rfl rfl rfl ?_
        refine guard_yes rfl e3 ?_
        refine op_pure (pv_len rfl rfl) ?_
        refine guard_yes rfl e3 ?_
        refine op_pure (pv_of (v := .bool _) rfl) ?_
        refine op_pure (pv_pickF rfl e3 (v := .bool _) rfl) ?_
        refine op_pure (pv_assign (v := .bool _) rfl) ?_
        refine xp_ret ?_
        refine res_list (vs := [_]) Try.results71 ⟨resV_tmp rfl rfl, trivial⟩ fun V => ?_
        refine ⟨(ext_wl V), decide ((s.reports.length : Int) > 20), rfl, fun e4 => ?_⟩
        have := of_decide_eq_false e1
        have := of_decide_eq_false e2
        have := of_decide_eq_false e3
        have := of_decide_eq_false e4
        omega
theorem mul3 {a f A : Int} (ha : 1 ≤ a ∧ a ≤ A) (hf : 1 ≤ f ∧ f ≤ 3) : 1 ≤ a * f ∧ a * f ≤ 3 * A := by
  have : f = 1 ∨ f = 2 ∨ f = 3 := by omega
  rcases this with h | h | h <;> rw [h] <;> omega
theorem mulB {a f A F : Int} (ha : 1 ≤ a ∧ a ≤ A) (hf : 1 ≤ f ∧ f ≤ F) : 1 ≤ a * f ∧ a * f ≤ A * F := by
  constructor
  · have := Int.mul_le_mul ha.1 hf.1 (by omega) (by omega)
    simpa using this
  · exact Int.mul_le_mul ha.2 hf.2 (by omega) (by omega)
set_option maxHeartbeats 4000000 in
theorem vast_ok (s : Season) (A0 A1 A2 A3 : Option Addr) (c0 c1 c2 c3 : Nat) (h : AH) (R : SeasonR h A0 A1 A2 A3 s) :
    FnT Try.prog 18 #[seasonV A0 A1 A2 A3 c0 c1 c2 c3 s] h (fun v _ => ∃ b, v = .bool b ∧ (b = false → s.heats.length ≤ 20 ∧ s.damps.length ≤ 20 ∧ s.joints.length ≤ 20 ∧ s.reports.length ≤ 20)) := by
  refine call_body Try.func18 rfl Try.ntmps18 rfl ?_
  refine xp_seq ?_
  refine xp_region rfl ?_
  refine op_box (v := .agg #[.slice _ _ _, .slice _ _ _, .slice _ _ _, .slice _ _ _]) (cs := [_, _, _, _]) rfl rfl fun b1 hb1 => ?_
  refine wp_norm [_] rfl ?_
  refine op_pure (pv_assign (v := .bool _) rfl) ?_
  refine xp_seq ?_
  refine xp_seq ?_
  refine xp_region rfl ?_
  refine op_loadPA 0 (vs := [.slice _ _ _, .slice _ _ _, .slice _ _ _, .slice _ _ _]) rfl rfl rfl rfl rfl ?_
  refine op_fn (caps := []) (vs := [.agg #[.slice _ _ _, .slice _ _ _, .slice _ _ _, .slice _ _ _]]) rfl rfl rfl (many_ok s A0 A1 A2 A3 c0 c1 c2 c3 h) ?_
  rintro _ h1 E1 ⟨b, rfl, hb⟩
  refine xp_cond rfl (fun ht => ?_) (fun ht => ?_)
  · skip
    refine xp_seq ?_
    refine xp_region rfl ?_
    refine op_pure (pv_assign (v := .bool _) rfl) ?_
    refine xp_ret ?_
    refine res_list (vs := [_]) Try.results18 ⟨resV_tmp rfl rfl, trivial⟩ fun V => ?_
    exact ⟨(Ext.trans E1 (ext_wl V)), true, rfl, fun h => by cases h⟩
  · skip
    have hbl := hb ht
    have Sm : Small s := ⟨by omega, by omega, by omega, by omega⟩
    refine xp_skip ?_
    refine xp_seq ?_
    refine xp_seq ?_
    refine xp_region rfl ?_
    refine op_loadPA 0 (vs := [.slice _ _ _, .slice _ _ _, .slice _ _ _, .slice _ _ _]) rfl rfl rfl rfl rfl ?_
    refine op_fn (caps := []) (vs := [.agg #[.slice _ _ _, .slice _ _ _, .slice _ _ _, .slice _ _ _]]) rfl rfl rfl (rCheck_ok s Sm A0 A1 A2 A3 c0 c1 c2 c3 h1 (R.ext E1)) ?_
    rintro _ h2 E2 rfl
    refine op_pure (pv_of (v := .bool _) rfl) ?_
    refine xp_cond rfl (fun hc => ?_) (fun hc => ?_)
    · skip
      refine xp_seq ?_
      refine xp_region rfl ?_
      refine op_pure (pv_assign (v := .bool _) rfl) ?_
      refine xp_ret ?_
      refine res_list (vs := [_]) Try.results18 ⟨resV_tmp rfl rfl, trivial⟩ fun V => ?_
      exact ⟨(Ext.trans (Ext.trans E1 E2) (ext_wl V)), false, rfl, fun _ => hbl⟩
    · skip
      have hc0 : checkM s = 0 := by simpa using hc
      have C := CheckS.of hc0
      have hdl := C.dl
      have h6 := C.w6
      have hH : ∀ r ∈ s.heats, -50 ≤ r.mn ∧ r.mn ≤ r.mx ∧ r.mx ≤ 100 ∧ r.mx - r.mn ≤ 2 := fun r hr => checkWeather_iff.1 (C.h r hr)
      have hD : ∀ r ∈ s.damps, -50 ≤ r.mn ∧ r.mn ≤ r.mx ∧ r.mx ≤ 100 ∧ r.mx - r.mn ≤ 2 := fun r hr => checkWeather_iff.1 (C.d r hr)
      have hJ : ∀ j ∈ s.joints, JointB j := fun j hj => (checkJointM_zero (C.j j hj)).1
      refine xp_skip ?_
      refine xp_seq ?_
      refine xp_region rfl ?_
      refine op_pure (pv_assign (v := .int .i64 _) rfl) ?_
      refine op_pure (pv_assign (v := .int .i64 _) rfl) ?_
      refine xp_seq ?_
      refine xp_seq ?_
      refine xp_region rfl ?_
      refine op_pure (pv_assign (v := .int .i64 _) rfl) ?_
      refine xp_block ?_
      refine xp_loopB [3, 4, 5, 13, 14, 15, 16, 17, 18, 19, 20, 21, 22, 23, 24, 25, 26, 27, 28, 29, 30, 31, 32, 33, 34, 35, 36, 37, 38, 39, 40, 41, 42, 43, 44, 45, 46, 47, 48, 49, 50, 51] 1 (α := Nat × Int × Int) (fun ⟨w, a, e⟩ => [(3, .int .i64 a), (4, .int .i64 e), (5, .int .i64 w)]) (fun ⟨w, a, e⟩ => _) (fun ⟨w, a, e⟩ h_w => w ≤ s.heats.length ∧ (1 ≤ a ∧ a ≤ ((3 ^ w : Nat) : Int)) ∧ (1 ≤ e ∧ e ≤ ((3 ^ w : Nat) : Int))) (fun ⟨w, a, e⟩ => s.heats.length - w) ((0, 1, 1)) ⟨rfl, rfl, rfl, trivial⟩ (rfl) (⟨Nat.zero_le _, by simp, by simp⟩) ?_
      rintro ⟨w, a, e⟩ T1 h_w E_w J_w
      refine goes_norm [_] rfl ?_
      obtain ⟨K1, K2, K3⟩ := J_w
      have hpw : 3 ^ w ≤ 3 ^ 6 := Nat.pow_le_pow_right (by omega) (by omega)
      have hpw1 : (3 ^ w : Nat) ≤ 729 := hpw
      refine xp_seq ?_
      refine xp_seq ?_
      refine xp_region rfl ?_
      refine op_pure (pv_move (v := .int .i64 _) rfl) ?_
      refine op_pure (pv_fieldAddr rfl rfl rfl rfl 0 rfl) ?_
      refine op_loadP 0 (v := .slice _ _ _) rfl rfl rfl rfl ?_
      refine op_pure (pv_len rfl rfl) ?_
      refine op_pure (pv_of (v := .bool _) rfl) ?_
      refine xp_cond rfl (fun hw => ?_) (fun hw => ?_)
      · skip
        have hwl : w < s.heats.length := ltI hw
        have hwd : w < s.damps.length := by omega
        have b1 := hH _ (List.getElem_mem hwl)
        have b2 := hD _ (List.getElem_mem hwd)
        obtain ⟨g1, o1, hB1, hc1⟩ := (R.heats.ext (Ext.trans (Ext.trans E1 E2) E_w)).at (by omega) hwl
        obtain ⟨g2, o2, hB2, hc2⟩ := (R.damps.ext (Ext.trans (Ext.trans E1 E2) E_w)).at (by omega) hwd
        have m1 := mul3 K2 (f := s.heats[w].mx - s.heats[w].mn + 1) (by omega)
        have m2 := mul3 K3 (f := s.damps[w].mx - s.damps[w].mn + 1) (by omega)
        have hsp : ((3 ^ (w + 1) : Nat) : Int) = 3 * ((3 ^ w : Nat) : Int) := by rw [Nat.pow_succ]; omega
        refine xp_skip ?_
        refine xp_seq ?_
        refine xp_block ?_
        refine xp_dw [] rfl rfl rfl ?_
        refine dw_pure (i := 0) rfl (by decide +kernel) (pv_move (v := .int .i64 _) rfl) ?_
        refine dw_pure (i := 1) rfl (by decide +kernel) (pv_fieldAddr rfl rfl rfl rfl 0 rfl) ?_
        refine dw_load (i := 2) rfl (by decide +kernel) ?_
        refine op_loadP 0 (v := .slice _ _ _) rfl rfl rfl rfl ?_
        refine dw_pure (i := 3) rfl (by decide +kernel) (pv_move (v := .int .i64 _) rfl) ?_
        refine dw_pure (i := 4) rfl (by decide +kernel) (pv_indexE rfl hB1 rfl rfl rfl (by omega) (by omega)) ?_
        refine dw_pure (i := 5) rfl (by decide +kernel) (pv_fieldAddr rfl rfl rfl rfl _ rfl) ?_
        refine dw_load (i := 6) rfl (by decide +kernel) ?_
        refine op_load (v := .int .i64 _) rfl rfl (hc1 1 (.int .i64 s.heats[w].mx) rfl) ?_
        refine dw_pure (i := 7) rfl (by decide +kernel) (pv_fieldAddr rfl rfl rfl rfl 0 rfl) ?_
        refine dw_load (i := 8) rfl (by decide +kernel) ?_
        refine op_loadP 0 (v := .slice _ _ _) rfl rfl rfl rfl ?_
        refine dw_pure (i := 9) rfl (by decide +kernel) (pv_move (v := .int .i64 _) rfl) ?_
        refine dw_pure (i := 10) rfl (by decide +kernel) (pv_indexE rfl hB1 rfl rfl rfl (by omega) (by omega)) ?_
        refine dw_pure (i := 11) rfl (by decide +kernel) (pv_fieldAddr rfl rfl rfl rfl _ rfl) ?_
        refine dw_load (i := 12) rfl (by decide +kernel) ?_
        refine op_load (v := .int .i64 _) rfl rfl (hc1 0 (.int .i64 s.heats[w].mn) rfl) ?_
        refine dw_pure (i := 13) rfl (by decide +kernel) (pv_arith rfl (by omega)) ?_
        refine dw_pure (i := 14) rfl (by decide +kernel) (pv_arith rfl (by omega)) ?_
        refine dw_pure (i := 15) rfl (by decide +kernel) (pv_arith rfl (by omega)) ?_
        refine dw_pure (i := 16) rfl (by decide +kernel) (pv_move (v := .int .i64 _) rfl) ?_
        refine dw_pure (i := 17) rfl (by decide +kernel) (pv_fieldAddr rfl rfl rfl rfl 1 rfl) ?_
        refine dw_load (i := 18) rfl (by decide +kernel) ?_
        refine op_loadP 0 (v := .slice _ _ _) rfl rfl rfl rfl ?_
        refine dw_pure (i := 19) rfl (by decide +kernel) (pv_move (v := .int .i64 _) rfl) ?_
        refine dw_pure (i := 20) rfl (by decide +kernel) (pv_indexE rfl hB2 rfl rfl rfl (by omega) (by omega)) ?_
        refine dw_pure (i := 21) rfl (by decide +kernel) (pv_fieldAddr rfl rfl rfl rfl _ rfl) ?_
        refine dw_load (i := 22) rfl (by decide +kernel) ?_
        refine op_load (v := .int .i64 _) rfl rfl (hc2 1 (.int .i64 s.damps[w].mx) rfl) ?_
        refine dw_pure (i := 23) rfl (by decide +kernel) (pv_fieldAddr rfl rfl rfl rfl 1 rfl) ?_
        refine dw_load (i := 24) rfl (by decide +kernel) ?_
        refine op_loadP 0 (v := .slice _ _ _) rfl rfl rfl rfl ?_
        refine dw_pure (i := 25) rfl (by decide +kernel) (pv_move (v := .int .i64 _) rfl) ?_
        refine dw_pure (i := 26) rfl (by decide +kernel) (pv_indexE rfl hB2 rfl rfl rfl (by omega) (by omega)) ?_
        refine dw_pure (i := 27) rfl (by decide +kernel) (pv_fieldAddr rfl rfl rfl rfl _ rfl) ?_
        refine dw_load (i := 28) rfl (by decide +kernel) ?_
        refine op_load (v := .int .i64 _) rfl rfl (hc2 0 (.int .i64 s.damps[w].mn) rfl) ?_
        refine dw_pure (i := 29) rfl (by decide +kernel) (pv_arith rfl (by omega)) ?_
        refine dw_pure (i := 30) rfl (by decide +kernel) (pv_arith rfl (by omega)) ?_
        refine dw_pure (i := 31) rfl (by decide +kernel) (pv_arith rfl (by omega)) ?_
        refine dw_pure (i := 32) rfl (by decide +kernel) (pv_assign (v := .int .i64 _) rfl) ?_
        refine dw_pure (i := 33) rfl (by decide +kernel) (pv_assign (v := .int .i64 _) rfl) ?_
        refine dw_end rfl ?_
        refine xp_region rfl ?_
        refine op_pure (pv_move (v := .int .i64 _) rfl) ?_
        refine op_pure (pv_arith rfl (by omega)) ?_
        refine op_pure (pv_assign (v := .int .i64 _) rfl) ?_
        refine ⟨(w + 1, a * (s.heats[w].mx - s.heats[w].mn + 1), e * (s.damps[w].mx - s.damps[w].mn + 1)), ⟨rfl, rfl, rfl, trivial⟩, rfl, rfl, E_w, fun h3 E3 => ⟨hwl, by omega, by omega⟩, by first | omega | (dsimp only; omega), ?_⟩
        repeat (first | exact off_base _ _ _ | refine off_upd (by decide) ?_ | refine off_updL rfl ?_ | refine off_mix rfl ?_)
      · skip
        refine xp_exit ?_
        refine xp_seq ?_
        refine xp_seq ?_
        refine xp_region rfl ?_
        refine op_pure (pv_assign (v := .int .i64 _) rfl) ?_
        refine xp_block ?_
        refine xp_loopB [2, 6, 7, 52, 53, 54, 55, 56, 57, 58, 59, 60, 61, 62, 63, 64, 65, 66, 67, 68, 69, 70, 71, 72, 73, 74, 75, 76, 77, 78, 79, 80, 81, 82, 83, 84, 85, 86, 87, 88, 89, 90, 91, 92, 93, 94, 95, 96, 97, 98, 99] 1 (α := Nat) (fun i => [(6, .int .i64 i)]) (fun i => _) (fun i h_i => i ≤ s.joints.length) (fun i => s.joints.length - i) (0) ⟨rfl, trivial⟩ (rfl) (Nat.zero_le _) ?_
        rintro i T2 h_i E_i J_i
        refine goes_norm [_] rfl ?_
        have hjl3 := C.j3
        refine xp_seq ?_
        refine xp_seq ?_
        refine xp_region rfl ?_
        refine op_pure (pv_move (v := .int .i64 _) rfl) ?_
        refine op_pure (pv_fieldAddr rfl rfl rfl rfl 2 rfl) ?_
        refine op_loadP 0 (v := .slice _ _ _) rfl rfl rfl rfl ?_
        refine op_pure (pv_len rfl rfl) ?_
        refine op_pure (pv_of (v := .bool _) rfl) ?_
        refine xp_cond rfl (fun hi => ?_) (fun hi => ?_)
        · skip
          have hil : i < s.joints.length := ltI hi
          obtain ⟨g1, o1, hB1, hc1⟩ := (R.joints.ext (Ext.trans (Ext.trans (Ext.trans E1 E2) E_w) E_i)).at (by omega) hil
          obtain ⟨h1', h2', h3', l1, l2, l3, w1, w2, w3, a1, a2, a3, hwd, lwd⟩ := hJ _ (List.getElem_mem hil)
          generalize s.joints[i] = j at *
          refine xp_skip ?_
          refine xp_seq ?_
          refine xp_block ?_
          refine xp_seq ?_
          refine xp_region rfl ?_
          refine op_pure (pv_fieldAddr rfl rfl rfl rfl 2 rfl) ?_
          refine op_loadP 0 (v := .slice _ _ _) rfl rfl rfl rfl ?_
          refine op_pure (pv_move (v := .int .i64 _) rfl) ?_
          refine op_pure (pv_indexE rfl hB1 rfl rfl rfl (by omega) (by omega)) ?_
          refine op_loadA rfl rfl rfl rfl (hc1) ?_
          refine op_alloc (cs := [_, _, _, _, _, _, _, _, _]) rfl rfl fun b7 hb7 => ?_
          refine wp_norm [_, _] rfl ?_
          refine op_storeP 1 (v := .agg #[.int .i64 _, .int .i64 _, .int .i64 _, .int .i64 _, .int .i64 _, .int .i64 _, .int .i64 _, .int .i64 _, .int .i64 _]) (vs := [_, _, _, _, _, _, _, _, _]) (c' := [_, _, _, _, _, _, _, _, _]) rfl rfl rfl rfl rfl rfl rfl rfl rfl ?_
          refine wp_norm [_, _] rfl ?_
          refine xp_seq ?_
          refine xp_region rfl ?_
          refine op_pure (pv_fieldAddr rfl rfl rfl rfl 1 rfl) ?_
          refine op_pure (pv_fieldAddr rfl rfl rfl rfl 2 rfl) ?_
          refine op_loadP 1 (v := .int .i64 _) rfl rfl rfl rfl ?_
          refine op_pure (pv_fieldAddr rfl rfl rfl rfl 1 rfl) ?_
          refine op_pure (pv_fieldAddr rfl rfl rfl rfl 1 rfl) ?_
          refine op_loadP 1 (v := .int .i64 _) rfl rfl rfl rfl ?_
          refine op_pure (pv_arith rfl (by omega)) ?_
          refine op_pure (pv_arith rfl (by omega)) ?_
          refine op_pure (pv_fieldAddr rfl rfl rfl rfl 3 rfl) ?_
          refine op_pure (pv_fieldAddr rfl rfl rfl rfl 4 rfl) ?_
          refine op_loadP 1 (v := .int .i64 _) rfl rfl rfl rfl ?_
          refine op_pure (pv_fieldAddr rfl rfl rfl rfl 3 rfl) ?_
          refine op_pure (pv_fieldAddr rfl rfl rfl rfl 3 rfl) ?_
          refine op_loadP 1 (v := .int .i64 _) rfl rfl rfl rfl ?_
          refine op_pure (pv_arith rfl (by omega)) ?_
          refine op_pure (pv_arith rfl (by omega)) ?_
          have m1 := mulB (a := j.high.mx - j.high.mn + 1) (f := j.low.mx - j.low.mn + 1) (A := 3) (F := 3) (by omega) (by omega)
          refine op_pure (pv_arith rfl (by omega)) ?_
          refine op_pure (pv_fieldAddr rfl rfl rfl rfl 5 rfl) ?_
          refine op_pure (pv_fieldAddr rfl rfl rfl rfl 6 rfl) ?_
          refine op_loadP 1 (v := .int .i64 _) rfl rfl rfl rfl ?_
          refine op_pure (pv_fieldAddr rfl rfl rfl rfl 5 rfl) ?_
          refine op_pure (pv_fieldAddr rfl rfl rfl rfl 5 rfl) ?_
          refine op_loadP 1 (v := .int .i64 _) rfl rfl rfl rfl ?_
          refine op_pure (pv_arith rfl (by omega)) ?_
          refine op_pure (pv_arith rfl (by omega)) ?_
          have m2 := mulB (a := (j.high.mx - j.high.mn + 1) * (j.low.mx - j.low.mn + 1)) (f := j.weeks.mx - j.weeks.mn + 1) (A := 9) (F := 6) (by omega) (by omega)
          refine op_pure (pv_arith rfl (by omega)) ?_
          refine op_pure (pv_fieldAddr rfl rfl rfl rfl 7 rfl) ?_
          refine op_pure (pv_fieldAddr rfl rfl rfl rfl 8 rfl) ?_
          refine op_loadP 1 (v := .int .i64 _) rfl rfl rfl rfl ?_
          refine op_pure (pv_fieldAddr rfl rfl rfl rfl 7 rfl) ?_
          refine op_pure (pv_fieldAddr rfl rfl rfl rfl 7 rfl) ?_
          refine op_loadP 1 (v := .int .i64 _) rfl rfl rfl rfl ?_
          refine op_pure (pv_arith rfl (by omega)) ?_
          refine op_pure (pv_arith rfl (by omega)) ?_
          have m3 := mulB (a := (j.high.mx - j.high.mn + 1) * (j.low.mx - j.low.mn + 1) * (j.weeks.mx - j.weeks.mn + 1)) (f := j.life.mx - j.life.mn + 1) (A := 54) (F := 10) (by omega) (by omega)
          refine op_pure (pv_arith rfl (by omega)) ?_
          refine op_pure (pv_of (v := .bool _) rfl) ?_
          refine xp_cond rfl (fun hg => ?_) (fun hg => ?_)
          · skip
            refine xp_seq ?_
            refine xp_region rfl ?_
            refine op_pure (pv_assign (v := .bool _) rfl) ?_
            refine xp_ret ?_
            refine res_list (vs := [_]) Try.results18 ⟨resV_tmp rfl rfl, trivial⟩ fun V => ?_
            exact ⟨(Ext.trans (Ext.trans (Ext.trans (Ext.trans E1 E2) E_w) E_i) (ext_wl V)), true, rfl, fun h => by cases h⟩
          · skip
            refine xp_skip ?_
            refine xp_region rfl ?_
            refine op_pure (pv_move (v := .int .i64 _) rfl) ?_
            refine op_pure (pv_arith rfl (by omega)) ?_
            refine op_pure (pv_assign (v := .int .i64 _) rfl) ?_
            refine ⟨i + 1, ⟨rfl, trivial⟩, rfl, rfl, E_i, fun h3 E3 => hil, by first | omega | (dsimp only; omega), ?_⟩
            repeat (first | exact off_base _ _ _ | refine off_upd (by decide) ?_ | refine off_updL rfl ?_ | refine off_mix rfl ?_)
        · skip
          refine xp_exit ?_
          refine xp_seq ?_
          refine xp_region rfl ?_
          refine op_pure (pv_move (v := .int .i64 _) rfl) ?_
          refine op_pure (pv_of (v := .bool _) rfl) ?_
          refine op_pure (pv_move (v := .bool _) rfl) ?_
          rcases Bool.eq_false_or_eq_true (decide (a > 27)) with q1 | q1
          · skip
            refine guard_no rfl q1 ?_
            refine guard_no rfl q1 ?_
            refine op_pure (pv_pickT rfl q1 (v := .bool _) rfl) ?_
            refine op_pure (pv_assign (v := .bool _) rfl) ?_
            refine xp_ret ?_
            refine res_list (vs := [_]) Try.results18 ⟨resV_tmp rfl rfl, trivial⟩ fun V => ?_
            exact ⟨(Ext.trans (Ext.trans (Ext.trans (Ext.trans E1 E2) E_w) E_i) (ext_wl V)), true, rfl, fun h => by cases h⟩
          · skip
            refine guard_yes rfl q1 ?_
            refine op_pure (pv_move (v := .int .i64 _) rfl) ?_
            refine guard_yes rfl q1 ?_
            refine op_pure (pv_of (v := .bool _) rfl) ?_
            refine op_pure (pv_pickF rfl q1 (v := .bool _) rfl) ?_
            refine op_pure (pv_assign (v := .bool _) rfl) ?_
            refine xp_ret ?_
            refine res_list (vs := [_]) Try.results18 ⟨resV_tmp rfl rfl, trivial⟩ fun V => ?_
            exact ⟨(Ext.trans (Ext.trans (Ext.trans (Ext.trans E1 E2) E_w) E_i) (ext_wl V)), decide (e > 27), rfl, fun _ => hbl⟩
end Go.Proofs.Ytndfkbapoinmkaa
/- The own logic, part Ub: data that came in, read as rows and seasons. Conditions: none. -/
namespace Go.HL
open Go Go.Wx Go.RowKit Go.ChangeShapes Go.WideShapes
section
variable {H : Type} {enc : TypeId × Value → H} {P : Program} {w : World} {base : Nat} {spare : Nat → Bool} {held : Bool}
theorem row_slice {α : Type} (en : α → List Value) {t e : TypeId} {m fuel : Nat} {cs : List Value} {x : DataW H × List MemPlace} (ht : P.underlying t = some (.slice e)) (hc : P.cellsOf e = m) (hm : 0 < m) (he : ∀ a, (en a).length = m)
    (leaf : ∀ n cs x, DataW.trod enc P w base spare held n e cs = some x → ∃ a, cs = en a) (h : DataW.trod enc P w base spare held fuel t cs = some x) :
    ∃ (A : Option Addr) (len cap : Nat) (l : List α), cs = [.slice A len cap] ∧ l.length = len ∧ Row (absH w.heap) m en A l ∧ len ≤ maxLen := by
  rcases Go.Deep.open_slice ht h with ⟨rfl, _⟩ | ⟨a, len, cap, mm, n, D, Pl, rfl, hb, hl, hmx, hmm, _, hel⟩
  · exact ⟨none, 0, 0, [], rfl, rfl, ⟨fun _ h => (by cases h), Rd.nil _ _⟩, Nat.zero_le _⟩
  · have hlm : len ≤ mm := by rw [hmm]; split <;> omega
    have key : ∀ i : _root_.Fin len, ∃ v : α, w.cells? base (a.add (i.val * m)) m = some (en v) := by
      intro i
      obtain ⟨cs', h1, h2⟩ := hel i.val (by have := i.isLt; omega)
      obtain ⟨v, rfl⟩ := leaf _ _ _ h2
      rw [hc] at h1
      exact ⟨v, h1⟩
    let l := List.ofFn fun i : _root_.Fin len => Classical.choose (key i)
    have hll : l.length = len := by simp [l]
    have hat : ∀ (i : Nat) (hi : i < l.length), w.cells? base (a.add (i * m)) m = some (en l[i]) := by
      intro i hi
      have := Classical.choose_spec (key ⟨i, by omega⟩)
      simpa [l] using this
    refine ⟨some a, len, cap, l, rfl, hll, ⟨fun x _ => he x, fun hne => ?_⟩, by omega⟩
    have hpos : 0 < l.length := by
      rcases Nat.eq_zero_or_pos l.length with h0 | h0
      · rw [List.eq_nil_of_length_eq_zero h0] at hne; simp at hne
      · exact h0
    obtain ⟨g, off, sp⟩ := a
    have h0 := hat 0 hpos
    obtain ⟨_, _, hcell⟩ := World.cells?_some h0
    have h00 := hcell 0 hm
    rw [Go.Deep.add_add, Nat.zero_mul, Nat.add_zero, List.getElem?_eq_getElem (by rw [he]; exact hm)] at h00
    have hsp : sp = none := by
      cases sp with
      | none => rfl
      | some s =>
        exfalso
        have : w.cell? ((⟨g, off, some s⟩ : Addr).add 0) = none := by
          simp only [Addr.add]
          rw [cell_abs]
          unfold cellA
          split <;> simp
        rw [this] at h00
        cases h00
    subst hsp
    refine ⟨g, off, rfl, fun j u hu => ?_⟩
    have hj : j < l.length * m := by
      have := (List.getElem?_eq_some_iff.1 hu).1
      rwa [flat_len (fun x _ => he x)] at this
    have hi : j / m < l.length := Nat.div_lt_of_lt_mul (by rw [Nat.mul_comm]; exact hj)
    have hr : j % m < m := Nat.mod_lt _ hm
    have hjm : j / m * m + j % m = j := by rw [Nat.mul_comm]; exact Nat.div_add_mod j m
    obtain ⟨_, _, hcl⟩ := World.cells?_some (hat (j / m) hi)
    have h1 := hcl (j % m) hr
    have h2 : (en l[j / m])[j % m]? = some ((en l[j / m])[j % m]'(by rw [he]; exact hr)) := List.getElem?_eq_getElem _
    have h3 := flat_get en m l (fun x _ => he x) (j / m) _ (List.getElem?_eq_getElem hi) (j % m) _ h2
    rw [hjm, hu] at h3
    rw [h2, ← h3, Go.Deep.add_add, hjm, cell_abs, add_none] at h1
    exact h1
end
end Go.HL
namespace Go.Proofs.Ytndfkbapoinmkaa
open Go Go.HL Go.Wx Go.RowKit Go.ChangeShapes Go.WideShapes
set_option maxRecDepth 100000
theorem cells3 : Try.prog.cellsOf 3 = 1 := by kernel_rfl
theorem cells4 : Try.prog.cellsOf 4 = 1 := by kernel_rfl
theorem cells22 : Try.prog.cellsOf 22 = 1 := by kernel_rfl
theorem cells23 : Try.prog.cellsOf 23 = 1 := by kernel_rfl
theorem cells24 : Try.prog.cellsOf 24 = 1 := by kernel_rfl
theorem cells26 : Try.prog.cellsOf 26 = 4 := by kernel_rfl
theorem cells51 : Try.prog.cellsOf 51 = 2 := by kernel_rfl
theorem cells53 : Try.prog.cellsOf 53 = 9 := by kernel_rfl
theorem cells56 : Try.prog.cellsOf 56 = 3 := by kernel_rfl
section
variable {H : Type} {enc : TypeId × Value → H} {w : World} {base : Nat} {spare : Nat → Bool} {held : Bool}
theorem int_leaf {n : Nat} {cs : List Value} {x : DataW H × List MemPlace} (h : DataW.trod enc Try.prog w base spare held n 3 cs = some x) : ∃ z : Int, cs = [.int .i64 z] := by
  obtain ⟨z, e, _⟩ := DataW.trod_int Try.underlying3 h
  exact ⟨z, e⟩
theorem bool_leaf {n : Nat} {cs : List Value} {x : DataW H × List MemPlace} (h : DataW.trod enc Try.prog w base spare held n 4 cs = some x) : ∃ b : Bool, cs = [.bool b] := by
  obtain ⟨z, e, _⟩ := DataW.trod_bool Try.underlying4 h
  exact ⟨z, e⟩
theorem some_at {α : Type} {xs : List α} {n i : Nat} (h : xs.length = n) (hi : i < n) : ∃ y, xs[i]? = some y := ⟨_, List.getElem?_eq_getElem (by omega)⟩
theorem rg_leaf {n : Nat} {cs : List Value} {x : DataW H × List MemPlace} (h : DataW.trod enc Try.prog w base spare held n 51 cs = some x) : ∃ r : Rg, cs = rgC r := by
  obtain ⟨xs, m, _, _, hl, hx, hf⟩ := DataW.trod_struct Try.underlying51 h
  rw [cells51] at hl
  obtain ⟨y0, e0⟩ := some_at (i := 0) hx (by decide)
  obtain ⟨y1, e1⟩ := some_at (i := 1) hx (by decide)
  obtain ⟨a, ha⟩ := int_leaf ((show DataW.trod enc Try.prog w base spare held m 3 ((cs.drop 0).take (Try.prog.cellsOf 3)) = xs[0]? from hf 0 _ rfl).trans e0)
  obtain ⟨b, hb⟩ := int_leaf ((show DataW.trod enc Try.prog w base spare held m 3 ((cs.drop 1).take (Try.prog.cellsOf 3)) = xs[1]? from hf 1 _ rfl).trans e1)
  rw [cells3] at ha hb
  match cs, hl with
  | [u, v], _ =>
    simp at ha hb
    exact ⟨⟨a, b⟩, by rw [ha, hb]; rfl⟩
theorem seen_leaf {n : Nat} {cs : List Value} {x : DataW H × List MemPlace} (h : DataW.trod enc Try.prog w base spare held n 56 cs = some x) : ∃ r : Seen, cs = seenC r := by
  obtain ⟨xs, m, _, _, hl, hx, hf⟩ := DataW.trod_struct Try.underlying56 h
  rw [cells56] at hl
  obtain ⟨y0, e0⟩ := some_at (i := 0) hx (by decide)
  obtain ⟨y1, e1⟩ := some_at (i := 1) hx (by decide)
  obtain ⟨y2, e2⟩ := some_at (i := 2) hx (by decide)
  obtain ⟨a, ha⟩ := int_leaf ((show DataW.trod enc Try.prog w base spare held m 3 ((cs.drop 0).take (Try.prog.cellsOf 3)) = xs[0]? from hf 0 _ rfl).trans e0)
  obtain ⟨b, hb⟩ := int_leaf ((show DataW.trod enc Try.prog w base spare held m 3 ((cs.drop 1).take (Try.prog.cellsOf 3)) = xs[1]? from hf 1 _ rfl).trans e1)
  obtain ⟨c, hc⟩ := bool_leaf ((show DataW.trod enc Try.prog w base spare held m 4 ((cs.drop 2).take (Try.prog.cellsOf 4)) = xs[2]? from hf 2 _ rfl).trans e2)
  rw [cells3] at ha hb
  rw [cells4] at hc
  match cs, hl with
  | [u, v, z], _ =>
    simp at ha hb hc
    exact ⟨⟨a, b, c⟩, by rw [ha, hb, hc]; rfl⟩
theorem joint_leaf {n : Nat} {cs : List Value} {x : DataW H × List MemPlace} (h : DataW.trod enc Try.prog w base spare held n 53 cs = some x) : ∃ j : Joint, cs = jointC j := by
  obtain ⟨xs, m, _, _, hl, hx, hf⟩ := DataW.trod_struct Try.underlying53 h
  rw [cells53] at hl
  obtain ⟨y0, e0⟩ := some_at (i := 0) hx (by decide)
  obtain ⟨y1, e1⟩ := some_at (i := 1) hx (by decide)
  obtain ⟨y2, e2⟩ := some_at (i := 2) hx (by decide)
  obtain ⟨y3, e3⟩ := some_at (i := 3) hx (by decide)
  obtain ⟨y4, e4⟩ := some_at (i := 4) hx (by decide)
  obtain ⟨a, ha⟩ := int_leaf ((show DataW.trod enc Try.prog w base spare held m 3 ((cs.drop 0).take (Try.prog.cellsOf 3)) = xs[0]? from hf 0 _ rfl).trans e0)
  obtain ⟨r1, h1⟩ := rg_leaf ((show DataW.trod enc Try.prog w base spare held m 51 ((cs.drop 1).take (Try.prog.cellsOf 51)) = xs[1]? from hf 1 _ rfl).trans e1)
  obtain ⟨r2, h2⟩ := rg_leaf ((show DataW.trod enc Try.prog w base spare held m 51 ((cs.drop 3).take (Try.prog.cellsOf 51)) = xs[2]? from hf 2 _ rfl).trans e2)
  obtain ⟨r3, h3⟩ := rg_leaf ((show DataW.trod enc Try.prog w base spare held m 51 ((cs.drop 5).take (Try.prog.cellsOf 51)) = xs[3]? from hf 3 _ rfl).trans e3)
  obtain ⟨r4, h4⟩ := rg_leaf ((show DataW.trod enc Try.prog w base spare held m 51 ((cs.drop 7).take (Try.prog.cellsOf 51)) = xs[4]? from hf 4 _ rfl).trans e4)
  rw [cells3] at ha
  rw [cells51] at h1 h2 h3 h4
  match cs, hl with
  | [u0, u1, u2, u3, u4, u5, u6, u7, u8], _ =>
    simp [rgC] at ha h1 h2 h3 h4
    refine ⟨⟨a, r1, r2, r3, r4⟩, ?_⟩
    rw [ha, h1.1, h1.2, h2.1, h2.2, h3.1, h3.2, h4.1, h4.2]
    rfl
/-- A season that came in. -/
theorem season_in {r : Reach} {b0 : Nat} {v : Value} {d : DataW H} {p : List MemPlace} (hv : Value.okWide Try.prog w r b0 26 v) (h : DataW.Trod enc Try.prog w base spare held 26 v d p) :
    ∃ (s : Season) (A0 A1 A2 A3 : Option Addr) (c0 c1 c2 c3 : Nat), v = seasonV A0 A1 A2 A3 c0 c1 c2 c3 s ∧ SeasonR (absH w.heap) A0 A1 A2 A3 s := by
  obtain ⟨cs, rfl, hs⟩ := okWide_struct Try.underlying26 hv
  obtain ⟨fuel, hf0⟩ := h
  have hcs : (Value.agg cs).cells.toList = cs.toList := rfl
  rw [hcs] at hf0
  obtain ⟨xs, m, _, _, hl, hx, hf⟩ := DataW.trod_struct Try.underlying26 hf0
  rw [cells26] at hl
  obtain ⟨y0, e0⟩ := some_at (i := 0) hx (by decide)
  obtain ⟨y1, e1⟩ := some_at (i := 1) hx (by decide)
  obtain ⟨y2, e2⟩ := some_at (i := 2) hx (by decide)
  obtain ⟨y3, e3⟩ := some_at (i := 3) hx (by decide)
  obtain ⟨A0, n0, c0, l0, h0, k0, R0, _⟩ := row_slice rgC Try.underlying22 cells51 (by omega) (fun _ => rfl) (fun _ _ _ => rg_leaf) ((show DataW.trod enc Try.prog w base spare held m 22 ((cs.toList.drop 0).take (Try.prog.cellsOf 22)) = xs[0]? from hf 0 _ rfl).trans e0)
  obtain ⟨A1, n1, c1, l1, h1, k1, R1, _⟩ := row_slice rgC Try.underlying22 cells51 (by omega) (fun _ => rfl) (fun _ _ _ => rg_leaf) ((show DataW.trod enc Try.prog w base spare held m 22 ((cs.toList.drop 1).take (Try.prog.cellsOf 22)) = xs[1]? from hf 1 _ rfl).trans e1)
  obtain ⟨A2, n2, c2, l2, h2, k2, R2, _⟩ := row_slice jointC Try.underlying23 cells53 (by omega) (fun _ => rfl) (fun _ _ _ => joint_leaf) ((show DataW.trod enc Try.prog w base spare held m 23 ((cs.toList.drop 2).take (Try.prog.cellsOf 23)) = xs[2]? from hf 2 _ rfl).trans e2)
  obtain ⟨A3, n3, c3, l3, h3, k3, R3, _⟩ := row_slice seenC Try.underlying24 cells56 (by omega) (fun _ => rfl) (fun _ _ _ => seen_leaf) ((show DataW.trod enc Try.prog w base spare held m 24 ((cs.toList.drop 3).take (Try.prog.cellsOf 24)) = xs[3]? from hf 3 _ rfl).trans e3)
  rw [cells22] at h0 h1
  rw [cells23] at h2
  rw [cells24] at h3
  obtain ⟨l⟩ := cs
  match l, hl with
  | [u0, u1, u2, u3], _ =>
    simp at h0 h1 h2 h3
    refine ⟨⟨l0, l1, l2, l3⟩, A0, A1, A2, A3, c0, c1, c2, c3, ?_, ⟨R0, R1, R2, R3⟩⟩
    rw [h0, h1, h2, h3, ← k0, ← k1, ← k2, ← k3]
    rfl
/-- Ints that came in. -/
theorem ints_in {r : Reach} {b0 : Nat} {v : Value} {d : DataW H} {p : List MemPlace} (hv : Value.okWide Try.prog w r b0 27 v) (h : DataW.Trod enc Try.prog w base spare held 27 v d p) :
    ∃ (l : List Int) (A : Option Addr) (c : Nat), v = .slice A l.length c ∧ Row (absH w.heap) 1 intC A l ∧ l.length ≤ maxLen := by
  obtain ⟨a0, len0, cap0, rfl⟩ := okWide_slice Try.underlying27 hv
  obtain ⟨fuel, hf⟩ := h
  obtain ⟨A, n, c, l, e, k, R, hm⟩ := row_slice intC Try.underlying27 cells3 (by omega) (fun _ => rfl) (fun _ _ _ => int_leaf) hf
  have hcs : (Value.slice a0 len0 cap0).cells.toList = [.slice a0 len0 cap0] := rfl
  rw [hcs] at e
  simp at e
  obtain ⟨rfl, rfl, rfl⟩ := e
  subst k
  exact ⟨l, _, _, rfl, R, hm⟩
end
end Go.Proofs.Ytndfkbapoinmkaa
/- Walks: the law on the weather, over the reference. Conditions: as each theorem states. -/
namespace Go.Proofs.Ytndfkbapoinmkaa
open Go Go.HL Go.Proofs Go.Wx Go.RowKit
set_option maxRecDepth 100000
/-- A season and where it lies. -/
structure SRec where
  A0 : Option Addr
  A1 : Option Addr
  A2 : Option Addr
  A3 : Option Addr
  c0 : Nat
  c1 : Nat
  c2 : Nat
  c3 : Nat
  s : Season
def srC (r : SRec) : List Value := [.slice r.A0 r.s.heats.length r.c0, .slice r.A1 r.s.damps.length r.c1, .slice r.A2 r.s.joints.length r.c2, .slice r.A3 r.s.reports.length r.c3]
structure SROk (h : AH) (r : SRec) : Prop where
  R : SeasonR h r.A0 r.A1 r.A2 r.A3 r.s
  h0 : r.s.heats.length ≤ 30
  h1 : r.s.damps.length ≤ 30
  h2 : r.s.joints.length ≤ 30
  h3 : r.s.reports.length ≤ 30
theorem SROk.ext {h h' : AH} {r : SRec} (o : SROk h r) (E : Ext h h') : SROk h' r := ⟨o.R.ext E, o.h0, o.h1, o.h2, o.h3⟩
theorem SROk.small {h : AH} {r : SRec} (o : SROk h r) : Small r.s := by
  have := o.h0; have := o.h1; have := o.h2; have := o.h3
  exact ⟨by omega, by omega, by omega, by omega⟩
theorem check_bd {s : Season} (C : CheckS s) : s.heats.length ≤ 30 ∧ s.damps.length ≤ 30 ∧ s.joints.length ≤ 30 ∧ s.reports.length ≤ 30 := by
  have := C.w6; have := C.dl; have := C.j3; have := C.r5
  omega
end Go.Proofs.Ytndfkbapoinmkaa
/- Walks: bounds of results; ints copied. Conditions: as each theorem states. -/
namespace Go.Proofs.Ytndfkbapoinmkaa
open Go Go.HL Go.Proofs Go.Wx Go.RowKit
set_option maxRecDepth 100000
theorem firstL_len {s : Season} (Sm : Small s) : (firstL s).length < 2 ^ 40 := by
  have := Sm.h2
  unfold firstL
  split
  · rw [List.length_map, List.length_range]; exact this
  · simp
end Go.Proofs.Ytndfkbapoinmkaa
/- Walks: the law on failures, over the reference. Conditions: as each theorem states. -/
namespace Go.Proofs.Ytndfkbapoinmkaa
open Go Go.HL Go.Proofs Go.Wx Go.RowKit
set_option maxRecDepth 100000
end Go.Proofs.Ytndfkbapoinmkaa
/- Walks: the law on the first ones, over the reference. Conditions: as each theorem states. -/
namespace Go.Proofs.Ytndfkbapoinmkaa
open Go Go.HL Go.Proofs Go.Wx Go.RowKit
set_option maxRecDepth 100000
set_option maxHeartbeats 16000000 in
theorem first_calls (w : World) (s0 : Season) (A0 A1 A2 A3 : Option Addr) (c0 c1 c2 c3 : Nat) (R : SeasonR (absH w.heap) A0 A1 A2 A3 s0) (wk : Int) (l : List Int) (A : Option Addr) (c : Nat) (RL : Row (absH w.heap) 1 intC A l) (hl : l.length ≤ maxLen) :
    Calls Try.prog 9 #[seasonV A0 A1 A2 A3 c0 c1 c2 c3 s0, .int .i64 wk, .slice A l.length c] w (fun e w' => e = .returned (.bool true) ∧ Below w.heap.size w w') := by
  refine calls_body Try.func9 rfl Try.ntmps9 rfl Try.results9 rfl fun h hh => ?_
  rw [← hh] at R RL
  refine xp_seq ?_
  refine xp_region rfl ?_
  refine op_box (v := .agg #[.slice _ _ _, .slice _ _ _, .slice _ _ _, .slice _ _ _]) (cs := [_, _, _, _]) rfl rfl fun b3 hb3 => ?_
  refine wp_norm [_] rfl ?_
  refine op_pure (pv_assign (v := .bool _) rfl) ?_
  refine xp_seq ?_
  refine xp_seq ?_
  refine xp_region rfl ?_
  refine op_loadPA 0 (vs := [.slice _ _ _, .slice _ _ _, .slice _ _ _, .slice _ _ _]) rfl rfl rfl rfl rfl ?_
  refine op_fn (caps := []) (vs := [.agg #[.slice _ _ _, .slice _ _ _, .slice _ _ _, .slice _ _ _]]) rfl rfl rfl (vast_ok s0 A0 A1 A2 A3 c0 c1 c2 c3 h (R.ext (Ext.refl _))) ?_
  rintro _ h1 E1 ⟨b, rfl, hb⟩
  refine xp_cond rfl (fun hv => ?_) (fun hv => ?_)
  · skip
    refine xp_seq ?_
    refine xp_region rfl ?_
    refine op_fn (caps := []) (vs := []) rfl rfl rfl (warm_ok h1) ?_
    rintro _ h9 E9 rfl
    refine op_pure (pv_assign (v := .bool _) rfl) ?_
    refine xp_ret ?_
    exact ⟨rfl, fun V => (Ext.trans (Ext.trans E1 E9) (ext_wl V)), rfl⟩
  · skip
    have hs0 := hb hv

    refine xp_skip ?_
    refine xp_seq ?_
    refine xp_region rfl ?_
    refine op_pure (pv_move (v := .slice _ _ _) rfl) ?_
    refine op_fnMM [_] [] [] rfl rfl rfl ((NewPot_ok l (Nat.lt_of_le_of_lt hl (by decide)) A c h1 (RL.ext E1))) ?_
    rintro _ h2 _ E2 ⟨bp, x1, rfl, rfl⟩
    refine wp_norm [_, _] rfl ?_
    refine op_pure (pv_assign (v := .pointer _) rfl) ?_
    refine xp_seq ?_
    refine xp_region rfl ?_
    refine op_pure (pv_move (v := .pointer _) rfl) ?_
    refine op_fnMM [_] [_] [] (vs := _) rfl rfl rfl ((SeasonOf_ok bp x1 4 3 2 (by omega) (by omega) (by omega) (by omega) h2)) ?_
    rintro _ h3 _ E3 ⟨x2, s, ht, dt, fs, _, _, rfl, rfl, ⟨B0, B1, B2, B3, d0, d1, d2, d3, rfl, RS⟩, T, HA, hc, DA, dc, FA, fc, rfl, R1, R2, R3⟩
    refine wp_norm [_, _] rfl ?_
    have C : CheckS s := SeasonT.checkS T (by omega) (by omega) (by omega)
    have hsb := check_bd C
    have hw1 := C.w1
    have hw6 := C.w6
    refine op_pure (pv_move (v := .tuple #[.agg #[.slice _ _ _, .slice _ _ _, .slice _ _ _, .slice _ _ _], .agg #[.slice _ _ _, .slice _ _ _, .slice _ _ _]]) rfl) ?_
    refine op_pure (pv_of (v := .agg #[.slice _ _ _, .slice _ _ _, .slice _ _ _, .slice _ _ _]) rfl) ?_
    refine op_pure (pv_of (v := .agg #[.slice _ _ _, .slice _ _ _, .slice _ _ _]) rfl) ?_
    refine op_alloc (cs := [_, _, _, _]) rfl rfl fun b8 hb8 => ?_
    refine wp_norm [_, _, _] rfl ?_
    refine op_alloc (cs := [_, _, _]) rfl rfl fun b9 hb9 => ?_
    refine wp_norm [_, _, _, _] rfl ?_
    refine op_storeP 2 (v := .agg #[.slice _ _ _, .slice _ _ _, .slice _ _ _, .slice _ _ _]) (vs := [_, _, _, _]) (c' := [_, _, _, _]) rfl rfl rfl rfl rfl rfl rfl rfl rfl ?_
    refine wp_norm [_, _, _, _] rfl ?_
    refine op_storeP 3 (v := .agg #[.slice _ _ _, .slice _ _ _, .slice _ _ _]) (vs := [_, _, _]) (c' := [_, _, _]) rfl rfl rfl rfl rfl rfl rfl rfl rfl ?_
    refine wp_norm [_, _, _, _] rfl ?_
    refine xp_seq ?_
    refine xp_dw [false, true] rfl rfl rfl ?_
    refine dw_load (i := 0) rfl (by decide +kernel) ?_
    refine op_loadPA 0 (vs := [.slice _ _ _, .slice _ _ _, .slice _ _ _, .slice _ _ _]) rfl rfl rfl rfl rfl ?_
    refine dw_load (i := 1) rfl (by decide +kernel) ?_
    refine op_loadPA 2 (vs := [.slice _ _ _, .slice _ _ _, .slice _ _ _, .slice _ _ _]) rfl rfl rfl rfl rfl ?_
    refine dw_load (i := 2) rfl (by decide +kernel) ?_
    refine op_loadPA 2 (vs := [.slice _ _ _, .slice _ _ _, .slice _ _ _, .slice _ _ _]) rfl rfl rfl rfl rfl ?_
    refine dw_pure (i := 4) rfl (by decide +kernel) (pv_move (v := .int .i64 _) rfl) ?_
    refine dw_pure (i := 5) rfl (by decide +kernel) (pv_move (v := .pointer _) rfl) ?_
    refine dw_pure (i := 6) rfl (by decide +kernel) (pv_fieldAddr rfl rfl rfl rfl 0 rfl) ?_
    refine dw_load (i := 7) rfl (by decide +kernel) ?_
    refine op_loadP 2 (v := .slice _ _ _) rfl rfl rfl rfl ?_
    refine dw_pure (i := 8) rfl (by decide +kernel) (pv_len rfl rfl) ?_
    refine dw_pure (i := 9) rfl (by decide +kernel) (pv_arith rfl (by omega)) ?_
    refine dw_pure (i := 11) rfl (by decide +kernel) (pv_move (v := .int .i64 _) rfl) ?_
    refine dw_eff (i := 10) rfl (by decide +kernel) ?_
    refine op_fnMM [_] [_] [_, _] (vs := [.pointer _, .int .i64 _]) rfl rfl rfl ((Upto_ok bp x2 ((s.heats.length : Int) - 1) (by omega) h3)) ?_
    rintro _ h4 _ E4 ⟨x3, z1, rfl, rfl, z1a, z1b⟩
    refine ⟨ext_wlm E4 _, ?_⟩
    refine dw_norm [_, _, _, _] rfl ?_
    refine dw_eff (i := 3) rfl (by decide +kernel) ?_
    refine op_buildSlice (zc := [_, _, _, _]) (vs := [(0, .agg #[.slice _ _ _, .slice _ _ _, .slice _ _ _, .slice _ _ _]), (1, .agg #[.slice _ _ _, .slice _ _ _, .slice _ _ _, .slice _ _ _]), (2, .agg #[.slice _ _ _, .slice _ _ _, .slice _ _ _, .slice _ _ _])]) (cs := [_, _, _, _, _, _, _, _, _, _, _, _]) rfl rfl rfl rfl rfl rfl rfl fun b35 hb35 => ?_
    refine ⟨ext_newM hb35 _, ?_⟩
    refine dw_norm [_, _, _, _, _] rfl ?_
    refine dw_pure (i := 13) rfl (by decide +kernel) (pv_assign (v := .slice _ _ _) rfl) ?_
    refine dw_eff (i := 12) rfl (by decide +kernel) ?_
    refine op_buildSlice (zc := [_]) (vs := [(0, .int .i64 _), (1, .int .i64 _), (2, .int .i64 _)]) (cs := [_, _, _]) rfl rfl rfl rfl rfl rfl rfl fun b44 hb44 => ?_
    refine ⟨ext_newM hb44 _, ?_⟩
    refine dw_norm [_, _, _, _, _, _] rfl ?_
    refine dw_pure (i := 14) rfl (by decide +kernel) (pv_assign (v := .slice _ _ _) rfl) ?_
    refine dw_end rfl ?_
    refine goes_pub 4 rfl ?_
    intro g0 G0 Q0
    refine goes_pub 5 rfl ?_
    intro g1 GZ Q1
    obtain ⟨rs, ers⟩ : ∃ rs : List SRec, rs = [⟨A0, A1, A2, A3, c0, c1, c2, c3, s0⟩, ⟨B0, B1, B2, B3, d0, d1, d2, d3, s⟩, ⟨B0, B1, B2, B3, d0, d1, d2, d3, s⟩] := ⟨_, rfl⟩
    have RR : Row g1 4 srC (some ⟨b35, 0, none⟩) rs := (show Row g0 4 srC _ rs from by rw [ers]; exact row_junk (junk := []) (fun _ => rfl) Q0).ext GZ
    obtain ⟨zlw, ezlw⟩ : ∃ zl : List Int, zl = [wk, z1, wk] := ⟨_, rfl⟩
    have RIw : Row g1 1 intC (some ⟨b44, 0, none⟩) zlw := (show Row g1 1 intC _ zlw from by rw [ezlw]; exact row_junk (junk := []) (fun _ => rfl) Q1)
    have hzlw : zlw.length = 3 := by rw [ezlw]; rfl
    have hrl : rs.length = 3 := by rw [ers]; rfl
    have hok : ∀ r ∈ rs, SROk g1 r := by
      intro r hr
      rw [ers] at hr
      simp only [List.mem_cons, List.not_mem_nil, or_false] at hr
      rcases hr with rfl | rfl | rfl
      · exact ⟨R.ext (Ext.trans (Ext.trans (Ext.trans (Ext.trans (Ext.trans E1 E2) E3) E4) G0) GZ), by show s0.heats.length ≤ 30; omega, by show s0.damps.length ≤ 30; omega, by show s0.joints.length ≤ 30; omega, by show s0.reports.length ≤ 30; omega⟩
      · exact ⟨RS.ext (Ext.trans (Ext.trans E4 G0) GZ), hsb.1, hsb.2.1, hsb.2.2.1, hsb.2.2.2⟩
      · exact ⟨RS.ext (Ext.trans (Ext.trans E4 G0) GZ), hsb.1, hsb.2.1, hsb.2.2.1, hsb.2.2.2⟩
    clear ers ezlw
    refine xp_seq ?_
    refine xp_seq ?_
    refine xp_region rfl ?_
    refine op_pure (pv_assign (v := .int .i64 _) rfl) ?_
    refine xp_block ?_
    refine xp_loopB [6, 12, 13, 14, 15, 16, 17, 18, 19, 20, 21, 45, 46, 47, 48, 49, 50, 51, 52, 53, 54, 55, 56, 57, 58, 59, 60, 61, 62, 63, 64, 65, 66, 67, 68, 69, 70, 71, 72, 73, 74, 75, 76, 77, 78, 79, 80, 81, 82, 83, 84, 85, 86, 87, 88, 89, 90, 91, 92, 93, 94, 95, 96, 97, 98, 99, 100, 101, 102, 103, 104, 105, 106, 107, 108, 109, 110, 111, 112, 113, 114, 115, 116, 117] 6 (α := Nat) (fun i => [(12, .int .i64 i)]) (fun i => _) (fun i h_i => i ≤ 3) (fun i => 3 - i) (0) ⟨rfl, trivial⟩ (rfl) (Nat.zero_le _) ?_
    rintro i T1 h_i E_i J_i
    refine goes_norm [_, _, _, _, _, _] rfl ?_
    refine xp_seq ?_
    refine xp_seq ?_
    refine xp_region rfl ?_
    refine op_pure (pv_move (v := .int .i64 _) rfl) ?_
    refine op_pure (pv_move (v := .slice _ _ _) rfl) ?_
    refine op_pure (pv_len rfl rfl) ?_
    refine op_pure (pv_of (v := .bool _) rfl) ?_
    refine xp_cond rfl (fun hi => ?_) (fun hi => ?_)
    · skip
      have hi4 : i < 3 := by have := of_decide_eq_true hi; omega
      obtain ⟨r, er⟩ : ∃ r, r = rs[i]'(by omega) := ⟨_, rfl⟩
      have o := hok r (by rw [er]; exact List.getElem_mem _)
      have o0 := o.h0
      have o1 := o.h1
      have o2 := o.h2
      have o3 := o.h3
      obtain ⟨gr, or, hBr, hcr⟩ := RR.at (by omega) (show i < rs.length by omega)
      rw [← er] at hcr
      obtain ⟨gzw, ozw, hBzw, hczw⟩ := RIw.at (by omega) (show i < zlw.length by omega)
      obtain ⟨yw, eyw⟩ : ∃ y, y = zlw[i]'(by omega) := ⟨_, rfl⟩
      rw [← eyw] at hczw
      have Sm := o.small
      refine xp_skip ?_
      refine xp_seq ?_
      refine xp_block ?_
      refine xp_seq ?_
      refine xp_region rfl ?_
      refine op_pure (pv_move (v := .slice _ _ _) rfl) ?_
      refine op_pure (pv_move (v := .int .i64 _) rfl) ?_
      refine op_pure (pv_indexE rfl hBr rfl rfl rfl (by omega) (by omega)) ?_
      refine op_loadA rfl rfl rfl rfl (hcr.ext E_i) ?_
      refine op_fn (caps := []) (vs := [.agg #[.slice _ _ _, .slice _ _ _, .slice _ _ _, .slice _ _ _]]) rfl rfl rfl (CopySeasonT_ok r.s r.A0 r.A1 r.A2 r.A3 r.c0 r.c1 r.c2 r.c3 h_i (o.R.ext E_i) (by omega) (by omega) (by omega) (by omega)) ?_
      rintro _ h6 E6 ⟨D0, D1, D2, D3, e0, e1, e2, e3, rfl, RO⟩
      refine op_alloc (cs := [_, _, _, _]) rfl rfl fun b13 hb13 => ?_
      refine wp_norm [_, _, _, _, _, _, _] rfl ?_
      refine op_storeP 6 (v := .agg #[.slice _ _ _, .slice _ _ _, .slice _ _ _, .slice _ _ _]) (vs := [_, _, _, _]) (c' := [_, _, _, _]) rfl rfl rfl rfl rfl rfl rfl rfl rfl ?_
      refine wp_norm [_, _, _, _, _, _, _] rfl ?_
      refine xp_seq ?_
      refine xp_region rfl ?_
      refine op_loadPA 6 (vs := [.slice _ _ _, .slice _ _ _, .slice _ _ _, .slice _ _ _]) rfl rfl rfl rfl rfl ?_
      refine op_fn (caps := []) (vs := [.agg #[.slice _ _ _, .slice _ _ _, .slice _ _ _, .slice _ _ _]]) rfl rfl rfl (First_ok r.s Sm D0 D1 D2 D3 e0 e1 e2 e3 h6 (RO.ext (Ext.refl _))) ?_
      rintro _ h7 E7 ⟨_, rfl, V1, f1, rfl, W1⟩
      refine op_pure (pv_move (v := .tuple #[.slice _ _ _, .int .i64 _]) rfl) ?_
      refine op_pure (pv_of (v := .slice _ _ _) rfl) ?_
      refine op_pure (pv_of (v := .int .i64 _) rfl) ?_
      refine op_pure (pv_assign (v := .slice _ _ _) rfl) ?_
      refine op_pure (pv_assign (v := .int .i64 _) rfl) ?_
      refine xp_seq ?_
      refine xp_region rfl ?_
      refine op_pure (pv_move (v := .slice _ _ _) rfl) ?_
      refine op_pure (pv_move (v := .int .i64 _) rfl) ?_
      refine op_pure (pv_indexE rfl hBr rfl rfl rfl (by omega) (by omega)) ?_
      refine op_loadA rfl rfl rfl rfl (hcr.ext (Ext.trans (Ext.trans E_i E6) E7)) ?_
      refine op_fn (caps := []) (vs := [.agg #[.slice _ _ _, .slice _ _ _, .slice _ _ _, .slice _ _ _]]) rfl rfl rfl (rFirst_ok r.s Sm r.A0 r.A1 r.A2 r.A3 r.c0 r.c1 r.c2 r.c3 h7 (o.R.ext (Ext.trans (Ext.trans E_i E6) E7))) ?_
      rintro _ h8 E8 ⟨_, rfl, V2, f2, rfl, W2⟩
      refine op_pure (pv_move (v := .tuple #[.slice _ _ _, .int .i64 _]) rfl) ?_
      refine op_pure (pv_of (v := .slice _ _ _) rfl) ?_
      refine op_pure (pv_of (v := .int .i64 _) rfl) ?_
      refine op_pure (pv_assign (v := .slice _ _ _) rfl) ?_
      refine op_pure (pv_assign (v := .int .i64 _) rfl) ?_
      refine xp_seq ?_
      refine xp_dw [] rfl rfl rfl ?_
      refine dw_load (i := 0) rfl (by decide +kernel) ?_
      refine op_loadPA 6 (vs := [.slice _ _ _, .slice _ _ _, .slice _ _ _, .slice _ _ _]) rfl rfl rfl rfl rfl ?_
      refine dw_pure (i := 1) rfl (by decide +kernel) (pv_move (v := .slice _ _ _) rfl) ?_
      refine dw_pure (i := 2) rfl (by decide +kernel) (pv_move (v := .int .i64 _) rfl) ?_
      refine dw_pure (i := 3) rfl (by decide +kernel) (pv_indexE rfl hBzw rfl rfl rfl (by omega) (by omega)) ?_
      refine dw_load (i := 4) rfl (by decide +kernel) ?_
      refine op_load (v := .int .i64 yw) rfl rfl ((hczw.ext (Ext.trans (Ext.trans (Ext.trans E_i E6) E7) E8)) 0 _ rfl) ?_
      refine dw_last (i := 5) rfl (by decide +kernel) (by decide +kernel) ?_
      refine op_fn (caps := []) (vs := [.agg #[.slice _ _ _, .slice _ _ _, .slice _ _ _, .slice _ _ _], .int .i64 _]) rfl rfl rfl (Sound_ok r.s Sm yw D0 D1 D2 D3 e0 e1 e2 e3 h8 (RO.ext (Ext.trans E7 E8))) ?_
      rintro _ h9 E9 rfl
      refine dw_pure (i := 6) rfl (by decide +kernel) (pv_move (v := .tuple #[.agg #[.int .i64 _, .int .i64 _], .int .i64 _]) rfl) ?_
      refine dw_pure (i := 7) rfl (by decide +kernel) (pv_of (v := .agg #[.int .i64 _, .int .i64 _]) rfl) ?_
      refine dw_pure (i := 8) rfl (by decide +kernel) (pv_of (v := .int .i64 _) rfl) ?_
      refine dw_eff (i := 9) rfl (by decide +kernel) ?_
      refine op_alloc (cs := [_, _]) rfl rfl fun b18 hb18 => ?_
      refine ⟨ext_new hb18 _, ?_⟩
      refine dw_norm [_, _, _, _, _, _, _, _] rfl ?_
      refine dw_last (i := 10) rfl (by decide +kernel) (by decide +kernel) ?_
      refine op_storeP 7 (v := .agg #[.int .i64 _, .int .i64 _]) (vs := [_, _]) (c' := [_, _]) rfl rfl rfl rfl rfl rfl rfl rfl rfl ?_
      refine dw_norm [_, _, _, _, _, _, _, _] rfl ?_
      refine dw_pure (i := 11) rfl (by decide +kernel) (pv_assign (v := .int .i64 _) rfl) ?_
      refine dw_end rfl ?_
      refine xp_seq ?_
      refine xp_dw [] rfl rfl rfl ?_
      refine dw_pure (i := 0) rfl (by decide +kernel) (pv_move (v := .slice _ _ _) rfl) ?_
      refine dw_pure (i := 1) rfl (by decide +kernel) (pv_move (v := .int .i64 _) rfl) ?_
      refine dw_pure (i := 2) rfl (by decide +kernel) (pv_indexE rfl hBr rfl rfl rfl (by omega) (by omega)) ?_
      refine dw_load (i := 3) rfl (by decide +kernel) ?_
      refine op_loadA rfl rfl rfl rfl (hcr.ext (Ext.trans (Ext.trans (Ext.trans (Ext.trans E_i E6) E7) E8) E9)) ?_
      refine dw_pure (i := 4) rfl (by decide +kernel) (pv_move (v := .slice _ _ _) rfl) ?_
      refine dw_pure (i := 5) rfl (by decide +kernel) (pv_move (v := .int .i64 _) rfl) ?_
      refine dw_pure (i := 6) rfl (by decide +kernel) (pv_indexE rfl hBzw rfl rfl rfl (by omega) (by omega)) ?_
      refine dw_load (i := 7) rfl (by decide +kernel) ?_
      refine op_load (v := .int .i64 yw) rfl rfl ((hczw.ext (Ext.trans (Ext.trans (Ext.trans (Ext.trans E_i E6) E7) E8) E9)) 0 _ rfl) ?_
      refine dw_last (i := 8) rfl (by decide +kernel) (by decide +kernel) ?_
      refine op_fn (caps := []) (vs := [.agg #[.slice _ _ _, .slice _ _ _, .slice _ _ _, .slice _ _ _], .int .i64 _]) rfl rfl rfl (rSound_ok r.s Sm yw r.A0 r.A1 r.A2 r.A3 r.c0 r.c1 r.c2 r.c3 h9 (o.R.ext (Ext.trans (Ext.trans (Ext.trans (Ext.trans E_i E6) E7) E8) E9))) ?_
      rintro _ h10 E10 rfl
      have q0 : (firstE r.s != firstE r.s) = false := by simp
      have q1 : (!decide (soundV r.s yw = soundV r.s yw)) = false := by simp
      have q2 : (soundE r.s yw != soundE r.s yw) = false := by simp
      have q3 : (!decide (firstL r.s = firstL r.s)) = false := by simp
      refine dw_pure (i := 9) rfl (by decide +kernel) (pv_move (v := .tuple #[.agg #[.int .i64 _, .int .i64 _], .int .i64 _]) rfl) ?_
      refine dw_pure (i := 10) rfl (by decide +kernel) (pv_of (v := .agg #[.int .i64 _, .int .i64 _]) rfl) ?_
      refine dw_pure (i := 11) rfl (by decide +kernel) (pv_of (v := .int .i64 _) rfl) ?_
      refine dw_eff (i := 12) rfl (by decide +kernel) ?_
      refine op_alloc (cs := [_, _]) rfl rfl fun b20 hb20 => ?_
      refine ⟨ext_new hb20 _, ?_⟩
      refine dw_norm [_, _, _, _, _, _, _, _, _] rfl ?_
      refine dw_last (i := 13) rfl (by decide +kernel) (by decide +kernel) ?_
      refine op_storeP 8 (v := .agg #[.int .i64 _, .int .i64 _]) (vs := [_, _]) (c' := [_, _]) rfl rfl rfl rfl rfl rfl rfl rfl rfl ?_
      refine dw_norm [_, _, _, _, _, _, _, _, _] rfl ?_
      refine dw_pure (i := 14) rfl (by decide +kernel) (pv_assign (v := .int .i64 _) rfl) ?_
      refine dw_end rfl ?_
      refine xp_seq ?_
      refine xp_dw [] rfl rfl rfl ?_
      refine dw_pure (i := 0) rfl (by decide +kernel) (pv_move (v := .int .i64 _) rfl) ?_
      refine dw_pure (i := 1) rfl (by decide +kernel) (pv_move (v := .int .i64 _) rfl) ?_
      refine dw_pure (i := 2) rfl (by decide +kernel) (pv_of (v := .bool _) rfl) ?_
      refine dw_pure (i := 3) rfl (by decide +kernel) (pv_move (v := .bool _) rfl) ?_
      refine dw_loadG (i := 4) rfl (by decide +kernel) rfl q0 ?_
      refine op_loadPA 7 (vs := [.int .i64 _, .int .i64 _]) rfl rfl rfl rfl rfl ?_
      refine dw_loadG (i := 5) rfl (by decide +kernel) rfl q0 ?_
      refine op_loadPA 8 (vs := [.int .i64 _, .int .i64 _]) rfl rfl rfl rfl rfl ?_
      refine dw_pureG (i := 6) rfl (by decide +kernel) rfl q0 (pv_neA rfl rfl (by kernel_rfl) (rgEq (soundV r.s yw) (soundV r.s yw))) ?_
      refine dw_pure (i := 7) rfl (by decide +kernel) (pv_pickF rfl q0 (v := .bool _) rfl) ?_
      refine dw_pure (i := 8) rfl (by decide +kernel) (pv_move (v := .bool _) rfl) ?_
      refine dw_pureG (i := 9) rfl (by decide +kernel) rfl q1 (pv_move (v := .int .i64 _) rfl) ?_
      refine dw_pureG (i := 10) rfl (by decide +kernel) rfl q1 (pv_move (v := .int .i64 _) rfl) ?_
      refine dw_pureG (i := 11) rfl (by decide +kernel) rfl q1 (pv_of (v := .bool _) rfl) ?_
      refine dw_pure (i := 12) rfl (by decide +kernel) (pv_pickF rfl q1 (v := .bool _) rfl) ?_
      refine dw_pure (i := 13) rfl (by decide +kernel) (pv_move (v := .bool _) rfl) ?_
      refine dw_pureG (i := 14) rfl (by decide +kernel) rfl q2 (pv_move (v := .slice _ _ _) rfl) ?_
      refine dw_pureG (i := 15) rfl (by decide +kernel) rfl q2 (pv_move (v := .slice _ _ _) rfl) ?_
      refine dw_lastG (i := 16) rfl (by decide +kernel) (by decide +kernel) rfl q2 ?_
      refine op_fn (caps := []) (vs := [.slice _ _ _, .slice _ _ _]) rfl rfl rfl (sameInts_ok (firstL r.s) (firstL r.s) V1 V2 f1 f2 h10 (W1.ext (Ext.trans (Ext.trans E8 E9) E10)) (W2.ext (Ext.trans E9 E10)) (firstL_len Sm)) ?_
      rintro _ h14 E14 rfl
      refine dw_pureG (i := 17) rfl (by decide +kernel) rfl q2 (pv_of (v := .bool _) rfl) ?_
      refine dw_pure (i := 18) rfl (by decide +kernel) (pv_pickF rfl q2 (v := .bool _) rfl) ?_
      refine dw_pure (i := 19) rfl (by decide +kernel) (pv_move (v := .bool _) rfl) ?_
      refine dw_loadG (i := 20) rfl (by decide +kernel) rfl q3 ?_
      refine op_loadPA 6 (vs := [.slice _ _ _, .slice _ _ _, .slice _ _ _, .slice _ _ _]) rfl rfl rfl rfl rfl ?_
      refine dw_pureG (i := 21) rfl (by decide +kernel) rfl q3 (pv_move (v := .slice _ _ _) rfl) ?_
      refine dw_pureG (i := 22) rfl (by decide +kernel) rfl q3 (pv_move (v := .int .i64 _) rfl) ?_
      refine dw_pureG (i := 23) rfl (by decide +kernel) rfl q3 (pv_indexE rfl hBr rfl rfl rfl (by omega) (by omega)) ?_
      refine dw_loadG (i := 24) rfl (by decide +kernel) rfl q3 ?_
      refine op_loadA rfl rfl rfl rfl (hcr.ext (Ext.trans (Ext.trans (Ext.trans (Ext.trans (Ext.trans (Ext.trans E_i E6) E7) E8) E9) E10) E14)) ?_
      refine dw_lastG (i := 25) rfl (by decide +kernel) (by decide +kernel) rfl q3 ?_
      refine op_fn (caps := []) (vs := [.agg #[.slice _ _ _, .slice _ _ _, .slice _ _ _, .slice _ _ _], .agg #[.slice _ _ _, .slice _ _ _, .slice _ _ _, .slice _ _ _]]) rfl rfl rfl (sameSeasons_ok r.s r.s D0 D1 D2 D3 r.A0 r.A1 r.A2 r.A3 e0 e1 e2 e3 r.c0 r.c1 r.c2 r.c3 h14 (RO.ext (Ext.trans (Ext.trans (Ext.trans (Ext.trans E7 E8) E9) E10) E14)) (o.R.ext (Ext.trans (Ext.trans (Ext.trans (Ext.trans (Ext.trans (Ext.trans E_i E6) E7) E8) E9) E10) E14)) Sm.h0 Sm.h1 Sm.h2 Sm.h3) ?_
      rintro _ h12 E12 rfl
      refine dw_pureG (i := 26) rfl (by decide +kernel) rfl q3 (pv_of (v := .bool _) rfl) ?_
      refine dw_pure (i := 27) rfl (by decide +kernel) (pv_pickF rfl q3 (v := .bool _) rfl) ?_
      refine dw_end rfl ?_
      refine xp_condF rfl ((by simp)) ?_
      refine xp_skip ?_
      refine xp_region rfl ?_
      refine op_pure (pv_move (v := .int .i64 _) rfl) ?_
      refine op_pure (pv_arith rfl (by omega)) ?_
      refine op_pure (pv_assign (v := .int .i64 _) rfl) ?_
      refine ⟨i + 1, ⟨rfl, trivial⟩, rfl, rfl, (Ext.trans (Ext.trans (Ext.trans (Ext.trans (Ext.trans (Ext.trans (Ext.trans E_i E6) E7) E8) E9) E10) E14) E12), fun h3 E3 => hi4, by first | omega | (dsimp only; omega), ?_⟩
      repeat (first | exact off_base _ _ _ | refine off_upd (by decide) ?_ | refine off_updL rfl ?_ | refine off_mix rfl ?_)
    · skip
      refine xp_exit ?_
      refine xp_seq ?_
      refine xp_region rfl ?_
      refine op_fn (caps := []) (vs := []) rfl rfl rfl (warm_ok h_i) ?_
      rintro _ h9 E9 rfl
      refine op_pure (pv_assign (v := .bool _) rfl) ?_
      refine xp_ret ?_
      exact ⟨rfl, fun V => (Ext.trans (Ext.trans (Ext.trans (Ext.trans (Ext.trans (Ext.trans (Ext.trans (Ext.trans E1 E2) E3) E4) G0) GZ) E_i) E9) (ext_wl V)), rfl⟩
end Go.Proofs.Ytndfkbapoinmkaa
/- Walks: the law on other weather, over the reference. Conditions: as each theorem states. -/
namespace Go.Proofs.Ytndfkbapoinmkaa
open Go Go.HL Go.Proofs Go.Wx Go.RowKit
set_option maxRecDepth 100000
end Go.Proofs.Ytndfkbapoinmkaa
/- Walks: the law on wrong reports, over the reference. Conditions: as each theorem states. -/
namespace Go.Proofs.Ytndfkbapoinmkaa
open Go Go.HL Go.Proofs Go.Wx Go.RowKit
set_option maxRecDepth 100000
end Go.Proofs.Ytndfkbapoinmkaa
/- Walks: the law on looks, over the reference. Conditions: as each theorem states. -/
namespace Go.Proofs.Ytndfkbapoinmkaa
open Go Go.HL Go.Proofs Go.Wx Go.RowKit
set_option maxRecDepth 100000
end Go.Proofs.Ytndfkbapoinmkaa
