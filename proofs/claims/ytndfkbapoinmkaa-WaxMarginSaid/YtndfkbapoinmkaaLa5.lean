/- An own logic over the model, its walks and its plain laws, joined of parts Td U CC W26 Te W27 W28. Conditions: as each theorem states. -/
import Derived.Test.YtndfkbapoinmkaaLa4
import Derived.Test.YtndfkbapoinmkaaLa1
import Derived.Test.YtndfkbapoinmkaaLa2
set_option linter.all false
/- Plain: what the truth of a season says of its questions. Conditions: as each theorem states. -/
namespace Go.Wx
open Go Go.HL
theorem listN_pair (m : Nat) : ∀ k, (listN m k).Pairwise (· < ·)
  | 0 => by simp [listN]
  | k + 1 => by
    rw [listN_succ]
    split
    · rw [List.pairwise_append]
      refine ⟨listN_pair m k, by simp, fun a ha b hb => ?_⟩
      obtain ⟨i, rfl, hi, _⟩ := listN_mem ha
      simp at hb
      subst hb
      omega
    · exact listN_pair m k
theorem mem_listN {m k : Nat} {z : Int} : z ∈ listN m k ↔ ∃ i : Nat, z = i ∧ i < k ∧ m.testBit i = true := by
  refine ⟨listN_mem, ?_⟩
  rintro ⟨i, rfl, hi, hb⟩
  unfold listN
  simp only [List.mem_map, List.mem_filter, List.mem_range]
  exact ⟨i, ⟨hi, hb⟩, rfl⟩
theorem when0_spec (x : Sky) (n : Nat) (h : Int) (hn : n ≤ 6) : when0 x n h ≤ n ∧ (when0 x n h < n → h ≤ x.at (when0 x n h)) ∧ ∀ w, w < n → h ≤ x.at w → when0 x n h ≤ w := by
  unfold when0
  have hp := listN_pair (hotM x h n) 7
  have hm := @mem_listN (hotM x h n) 7
  split
  · rename_i e
    refine ⟨Nat.le_refl _, fun h => absurd h (by omega), fun w hw hh => ?_⟩
    have : (w : Int) ∈ listN (hotM x h n) 7 := hm.2 ⟨w, rfl, by omega, by rw [hotM_bit]; simp [hw, hh]⟩
    rw [show listN (hotM x h n) 7 = [] from e] at this
    cases this
  · rename_i w l e
    rw [show listN (hotM x h n) 7 = w :: l from e] at hp hm
    obtain ⟨i, rfl, hi, hb⟩ := hm.1 (List.mem_cons_self ..)
    rw [hotM_bit] at hb
    simp at hb
    refine ⟨by simp; omega, fun _ => by simpa using hb.2, fun w hw hh => ?_⟩
    have : (w : Int) ∈ (i : Int) :: l := hm.2 ⟨w, rfl, by omega, by rw [hotM_bit]; simp [hw, hh]⟩
    rcases List.mem_cons.1 this with h1 | h1
    · simp; omega
    · have := (List.pairwise_cons.1 hp).1 _ h1
      simp; omega
theorem coldM_pair (x : Sky) (c : Int) : ∀ k, (coldM x c k).Pairwise (· < ·)
  | 0 => by simp [coldM]
  | k + 1 => by
    rw [coldM_succ]
    split
    · rw [List.pairwise_append]
      refine ⟨coldM_pair x c k, by simp, fun a ha b hb => ?_⟩
      obtain ⟨i, rfl, hi, _⟩ := coldM_mem ha
      simp at hb
      subst hb
      omega
    · exact coldM_pair x c k
theorem pair_inj {l : List Int} (hp : l.Pairwise (· < ·)) {i j : Nat} {z : Int} (hi : l[i]? = some z) (hj : l[j]? = some z) : i = j := by
  obtain ⟨h1, e1⟩ := List.getElem?_eq_some_iff.1 hi
  obtain ⟨h2, e2⟩ := List.getElem?_eq_some_iff.1 hj
  rw [List.pairwise_iff_getElem] at hp
  rcases Nat.lt_trichotomy i j with h | h | h
  · have := hp i j h1 h2 h; omega
  · exact h
  · have := hp j i h2 h1 h; omega
theorem when1_spec (l : List Int) (hl : l.length ≤ 6) (c : Int) (many : Nat) (hm : 1 ≤ many) : when1 (skyOf l) l.length c many ≤ l.length ∧ (when1 (skyOf l) l.length c many < l.length → (skyOf l).at (when1 (skyOf l) l.length c many) ≤ c ∧ coldN l c (when1 (skyOf l) l.length c many + 1) = many) ∧ ∀ w, w < l.length → (skyOf l).at w ≤ c → coldN l c (w + 1) = many → when1 (skyOf l) l.length c many = w := by
  have step : ∀ w, w < l.length → (skyOf l).at w ≤ c → coldN l c (w + 1) = (coldM (skyOf l) c w).length + 1 := by
    intro w hw hc
    rw [← coldM_cold l c (w + 1) (by omega) hl, coldM_succ, if_pos hc]
    simp
  have third : ∀ w, w < l.length → (skyOf l).at w ≤ c → coldN l c (w + 1) = many → when1 (skyOf l) l.length c many = w := by
    intro w hw hc he
    have h1 := coldM_at (skyOf l) c w l.length hw hc
    rw [step w hw hc] at he
    have h2 := (List.getElem?_eq_some_iff.1 h1).1
    unfold when1
    rw [if_pos (by omega), show many - 1 = (coldM (skyOf l) c w).length from by omega, List.getD_eq_getElem?_getD, h1]
    rfl
  unfold when1 at third ⊢
  by_cases h : many ≤ (coldM (skyOf l) c l.length).length
  · rw [if_pos h] at third ⊢
    have hx : (coldM (skyOf l) c l.length)[many - 1]? = some ((coldM (skyOf l) c l.length)[many - 1]'(by omega)) := List.getElem?_eq_getElem (by omega)
    obtain ⟨w, hw, h1, h2⟩ := coldM_mem (List.getElem_mem (show many - 1 < (coldM (skyOf l) c l.length).length by omega))
    rw [hw] at hx
    have h3 := coldM_at (skyOf l) c w l.length h1 h2
    have h4 := pair_inj (coldM_pair _ _ _) hx h3
    rw [List.getD_eq_getElem?_getD, hx] at third ⊢
    refine ⟨by simp; omega, fun _ => ?_, third⟩
    simp only [Option.getD_some, Int.toNat_natCast]
    exact ⟨h2, by rw [step w h1 h2]; omega⟩
  · rw [if_neg h] at third ⊢
    exact ⟨Nat.le_refl _, fun h => absurd h (by omega), third⟩
/-- The week of a failure, in a weather that is known, is the first week with a cause. -/
theorem weekM_T (l : List Int) (hl : l.length ≤ 6) (hi lo : Int) (many life : Nat) (hm : 1 ≤ many) : failT l hi lo many life = weekM (skyOf l) l.length hi lo many life := by
  obtain ⟨a1, a2, a3⟩ := when0_spec (skyOf l) l.length hi hl
  obtain ⟨b1, b2, b3⟩ := when1_spec l hl lo many hm
  have hat : ∀ w, w < l.length → l.getD w 0 = (skyOf l).at w := fun w hw => (skyOf_at l w (by omega)).symm
  refine failT_eq (weekM_le ..) (fun h => ?_) (fun w hw => ?_)
  · unfold failW
    rw [hat _ h]
    simp only [Bool.or_eq_true, Bool.and_eq_true, decide_eq_true_eq]
    generalize he : weekM (skyOf l) l.length hi lo many life = f at h ⊢
    unfold weekM at he
    have : f = when0 (skyOf l) l.length hi ∨ f = when1 (skyOf l) l.length lo many ∨ f = life := by omega
    rcases this with e | e | e
    · left; left; rw [e]; exact a2 (by omega)
    · right; rw [e] at h ⊢; have := b2 h; exact ⟨this.1, by exact_mod_cast this.2⟩
    · left; right; exact_mod_cast e
  · have hwn : w < l.length := Nat.lt_of_lt_of_le hw (weekM_le ..)
    unfold weekM at hw
    unfold failW
    rw [hat _ hwn]
    rw [Bool.eq_false_iff]
    intro hc
    simp only [Bool.or_eq_true, Bool.and_eq_true, decide_eq_true_eq] at hc
    rcases hc with (h | h) | ⟨h1, h2⟩
    · have := a3 w hwn h; omega
    · omega
    · have := b3 w hwn h1 (by exact_mod_cast h2); omega
theorem uptoM_bit (m k w : Nat) : (uptoM m k).testBit w = (m.testBit w && decide (w ≤ k)) := by
  unfold uptoM
  rw [Nat.testBit_and, Nat.testBit_two_pow_sub_one]
  congr 1
  rw [decide_eq_decide]
  omega
theorem toldStep_bit (j : Int) (m : Nat) (r : Seen) (w : Nat) (hw : w < 64) (hm : m < 2 ^ 64) (hr : 0 ≤ r.week) : (toldStep j m r).testBit w = (m.testBit w && (!decide (r.joint = j) || (r.failed == decide ((w : Int) ≤ r.week)))) := by
  have hwk : decide (w ≤ r.week.toNat) = decide ((w : Int) ≤ r.week) := by rw [decide_eq_decide]; omega
  unfold toldStep
  by_cases h : r.joint = j
  · rw [if_neg (by simp [h])]
    cases hf : r.failed with
    | true => simp [uptoM_bit, h, hwk]
    | false =>
      have hu : uptoM m r.week.toNat < 2 ^ 64 := uptoM_lt hm
      simp only [h, Bool.false_eq_true, if_false, decide_true, Bool.not_true, Bool.false_or]
      rw [Nat.testBit_and, show 2 ^ 64 - 1 - uptoM m r.week.toNat = 2 ^ 64 - (uptoM m r.week.toNat + 1) from by omega, Nat.testBit_two_pow_sub_succ hu, uptoM_bit, hwk]
      cases m.testBit w <;> simp [hw]
  · rw [if_pos h]; simp [h]
/-- Which weeks the reports leave for a joint. -/
theorem toldW_bit (s : Season) (h6 : s.heats.length ≤ 6) (hr : ∀ r ∈ s.reports, 0 ≤ r.week) (i w : Nat) (hw : w < 64) : (toldW s i).testBit w = (decide (w ≤ s.heats.length) && s.reports.all fun r => !decide (r.joint = (i : Int)) || (r.failed == decide ((w : Int) ≤ r.week))) := by
  have key : ∀ (l : List Seen) (m : Nat), m < 2 ^ 64 → (∀ r ∈ l, 0 ≤ r.week) → (l.foldl (toldStep i) m).testBit w = (m.testBit w && l.all fun r => !decide (r.joint = (i : Int)) || (r.failed == decide ((w : Int) ≤ r.week))) := by
    intro l
    induction l with
    | nil => intro m _ _; simp
    | cons r l ih =>
      intro m hm hr
      rw [List.foldl_cons, ih _ (toldStep_lt hm) (fun q hq => hr q (List.mem_cons_of_mem _ hq)), toldStep_bit _ _ _ _ hw hm (hr r (List.mem_cons_self ..)), List.all_cons, Bool.and_assoc]
  have h2 : 2 ^ (s.heats.length + 1) ≤ 2 ^ 7 := Nat.pow_le_pow_right (by omega) (by omega)
  unfold toldW toldM
  rw [List.take_length, key _ _ (by omega) hr, Nat.testBit_two_pow_sub_one]
  congr 1
  rw [decide_eq_decide]
  omega
theorem mem_failuresM {j : Joint} {x : Sky} {n : Nat} {y : Fl} : y ∈ failuresM j x n ↔ ∃ h c many life : Int, (j.high.mn ≤ h ∧ h ≤ j.high.mx) ∧ (j.low.mn ≤ c ∧ c ≤ j.low.mx) ∧ (j.weeks.mn ≤ many ∧ many ≤ j.weeks.mx) ∧ (j.life.mn ≤ life ∧ life ≤ j.life.mx) ∧ y = failM x n h c many.toNat life.toNat := by
  unfold failuresM fails1 fails2 fails3 fails4
  simp only [List.mem_flatMap, List.mem_map, mem_rangeI]
  constructor
  · rintro ⟨h, h1, c, h2, m, h3, l, h4, rfl⟩
    exact ⟨h, c, m, l, by omega, by omega, by omega, by omega, rfl⟩
  · rintro ⟨h, c, m, l, h1, h2, h3, h4, rfl⟩
    exact ⟨h, by omega, c, by omega, m, by omega, l, by omega, rfl⟩
theorem mem_okAll {s : Season} {n : Int} {x : Sky} : x ∈ okK s n (allSkies s n).length ↔ x ∈ allSkies s n ∧ okM s n x = true := by
  unfold okK
  rw [List.take_length, List.mem_filter]
theorem mem_pushAll (x : Sky) : ∀ (l acc : List Sky), x ∈ l.foldl pushSky acc ↔ x ∈ acc ∨ x ∈ l
  | [], acc => by simp
  | y :: l, acc => by
    rw [List.foldl_cons, mem_pushAll x l]
    unfold pushSky
    split
    · rename_i h
      have hy : y ∈ acc := List.mem_of_getLast? h
      constructor
      · rintro (h | h) <;> simp [h]
      · rintro (h | h)
        · exact .inl h
        · rcases List.mem_cons.1 h with e | h
          · exact .inl (e ▸ hy)
          · exact .inr h
    · simp only [List.mem_append, List.mem_cons, List.not_mem_nil, or_false, or_assoc]
theorem mem_skM {s : Season} {n : Int} {x : Sky} : x ∈ skM s n ↔ x ∈ allSkies s n ∧ okM s n x = true := by
  show x ∈ (okK s n (allSkies s n).length).foldl pushSky [] ↔ _
  rw [mem_pushAll, mem_okAll]
  simp
theorem mem_flsM {s : Season} {n : Int} {i : Nat} {y : Fl} : y ∈ flsM s n i ↔ ∃ x, x ∈ allSkies s n ∧ okM s n x = true ∧ y ∈ surv s n x i := by
  show y ∈ (okK s n (allSkies s n).length).flatMap _ ↔ _
  rw [List.mem_flatMap]
  constructor
  · rintro ⟨x, hx, hy⟩; obtain ⟨h1, h2⟩ := mem_okAll.1 hx; exact ⟨x, h1, h2, hy⟩
  · rintro ⟨x, h1, h2, hy⟩; exact ⟨x, mem_okAll.2 ⟨h1, h2⟩, hy⟩
theorem mem_fatesM {s : Season} {n : Int} {f : Fate} : f ∈ fatesM s n ↔ ∃ x, x ∈ allSkies s n ∧ okM s n x = true ∧ fateOf s n x = f := by
  show f ∈ (okK s n (allSkies s n).length).map _ ↔ _
  rw [List.mem_map]
  constructor
  · rintro ⟨x, hx, hy⟩; obtain ⟨h1, h2⟩ := mem_okAll.1 hx; exact ⟨x, h1, h2, hy⟩
  · rintro ⟨x, h1, h2, hy⟩; exact ⟨x, mem_okAll.2 ⟨h1, h2⟩, hy⟩
theorem okM_iff {s : Season} {n : Int} {x : Sky} : okM s n x = true ↔ ∀ (i : Nat) j, s.joints[i]? = some j → j.kind = n → surv s n x i ≠ [] := by
  unfold okM
  rw [List.all_eq_true]
  constructor
  · intro h i j hj hk e
    have hl := (List.getElem?_eq_some_iff.1 hj).1
    have := h i (List.mem_range.2 hl)
    unfold kindAt at this
    rw [hj] at this
    simp [hk, fateM, e, maskM] at this
  · intro h i hi
    rw [List.mem_range] at hi
    have hj : s.joints[i]? = some s.joints[i] := List.getElem?_eq_getElem hi
    unfold kindAt
    rw [hj]
    by_cases hk : s.joints[i].kind = n
    · have := h i _ hj hk
      simp [fateM, maskM_zero, this]
    · simp [hk]
theorem mayM_iff {s : Season} : mayM s = true ↔ (∃ x, x ∈ skM s 1) ∧ (∃ x, x ∈ skM s 2) := by
  unfold mayM
  rw [Bool.and_eq_true, decide_eq_true_eq, decide_eq_true_eq, List.length_pos_iff_exists_mem, List.length_pos_iff_exists_mem]
section
variable {weeks joints reports : Nat} {s : Season} {ht dt fs : List Int} (T : SeasonT weeks joints reports s ht dt fs) (hw : weeks ≤ 6)
include T hw
/-- A joint's true failure is among those that can be. -/
theorem true_surv {n : Int} (hn : n = 1 ∨ n = 2) {i : Nat} {j : Joint} {f : Int} (hj : s.joints[i]? = some j) (hk : j.kind = n) (hf : fs[i]? = some f) : ∃ y ∈ surv s n (skyOf (if n = 1 then ht else dt)) i, (y.week : Int) = f := by
  obtain ⟨hi, lo, many, life, J⟩ := T.js.at' i j f hj hf
  have hx : (if n = 1 then ht else dt).length = s.heats.length := by split; · exact T.hn.len.symm
                                                                     · rw [T.dl]; exact T.hn.len.symm
  have h6 : s.heats.length ≤ 6 := by have := T.hn.len; have := T.ww; omega
  have m := J.m
  have l := J.l
  have k := J.k
  have n1 := J.h1.bd (by omega) (by omega)
  have n2 := J.h2.bd (by omega) (by omega)
  have n3 := J.h3.bd (by omega) (by omega)
  have n4 := J.h4.bd (by omega) (by omega)
  have hwk := weekM_T (if n = 1 then ht else dt) (by omega) hi lo many.toNat life.toNat (by omega)
  have hm : ((many.toNat : Nat) : Int) = many := by omega
  have hl : ((life.toNat : Nat) : Int) = life := by omega
  rw [hm, hl, hx] at hwk
  have hff := J.f
  rw [hk] at hff
  refine ⟨failM (skyOf (if n = 1 then ht else dt)) s.heats.length hi lo many.toNat life.toNat, ?_, ?_⟩
  · unfold surv
    rw [hj]
    simp only [hk, if_true]
    refine List.mem_filter.2 ⟨mem_failuresM.2 ⟨hi, lo, many, life, by omega, by omega, by omega, by omega, rfl⟩, ?_⟩
    have hle := weekM_le (skyOf (if n = 1 then ht else dt)) s.heats.length hi lo many.toNat life.toNat
    show (toldW s i).testBit (weekM (skyOf (if n = 1 then ht else dt)) s.heats.length hi lo many.toNat life.toNat) = true
    rw [toldW_bit s h6 (fun r hr => (T.rs r hr).2.2.1) i _ (by omega), Bool.and_eq_true, decide_eq_true_eq]
    refine ⟨hle, ?_⟩
    rw [List.all_eq_true]
    intro r hr
    obtain ⟨r1, r2, r3, r4, r5⟩ := T.rs r hr
    by_cases h : r.joint = (i : Int)
    · have : fs.getD r.joint.toNat 0 = f := by rw [h, Int.toNat_natCast, List.getD_eq_getElem?_getD, hf]; rfl
      rw [this, hff, hwk] at r5
      simp [h, r5]
    · simp [h]
  · show ((weekM _ _ _ _ _ _ : Nat) : Int) = f
    rw [hff, hwk]
theorem true_sky (n : Int) : skyOf (if n = 1 then ht else dt) ∈ allSkies s n := by
  have key : ∀ (ts : List Int) (rs : List Rg), NearL ts rs → ts.length ≤ 6 → (∀ t ∈ ts, -50 ≤ t ∧ t ≤ 100) → skyOf ts ∈ skiesM rs 0 sky0 := by
    intro ts rs N h6 hb
    have hl := N.len
    refine mem_skies rs 0 sky0 (by omega) (fun i r hr => ?_) (fun i hi hc => ?_)
    · have hi := (List.getElem?_eq_some_iff.1 hr).1
      have hi2 : i < ts.length := by omega
      have ht : ts[i]? = some ts[i] := List.getElem?_eq_getElem hi2
      have := N.at' i _ r ht hr
      have hb' := hb ts[i] (List.getElem_mem _)
      have := this.bd hb'.1 hb'.2
      rw [Nat.zero_add, skyOf_at _ _ (by omega), List.getD_eq_getElem?_getD, ht]
      simp only [Option.getD_some]
      omega
    · rw [skyOf_at _ _ hi, List.getD_eq_getElem?_getD, List.getElem?_eq_none (by omega)]
      match i, hi with
      | 0, _ => rfl
      | 1, _ => rfl
      | 2, _ => rfl
      | 3, _ => rfl
      | 4, _ => rfl
      | 5, _ => rfl
      | i + 6, h => omega
  have h1 := T.ww
  have h2 := T.dl
  unfold allSkies weatherM
  split
  · exact key ht s.heats T.hn (by omega) fun t h => by have := T.hb t h; omega
  · exact key dt s.damps T.dn (by omega) fun t h => by have := T.db t h; omega
theorem true_ok {n : Int} (hn : n = 1 ∨ n = 2) : okM s n (skyOf (if n = 1 then ht else dt)) = true := by
  rw [okM_iff]
  intro i j hj hk e
  have hl := (List.getElem?_eq_some_iff.1 hj).1
  have hl' : i < fs.length := by rw [T.js.len]; exact hl
  obtain ⟨y, hy, _⟩ := true_surv T hw hn hj hk (List.getElem?_eq_getElem hl')
  rw [e] at hy
  cases hy
theorem may_T : mayM s = true := mayM_iff.2 ⟨⟨_, mem_skM.2 ⟨true_sky T hw 1, true_ok T hw (.inl rfl)⟩⟩, ⟨_, mem_skM.2 ⟨true_sky T hw 2, true_ok T hw (.inr rfl)⟩⟩⟩
theorem kind_T {i : Nat} {j : Joint} (hj : s.joints[i]? = some j) : j.kind = 1 ∨ j.kind = 2 := by
  have hl := (List.getElem?_eq_some_iff.1 hj).1
  have hl' : i < fs.length := by rw [T.js.len]; exact hl
  obtain ⟨_, _, _, _, J⟩ := T.js.at' i j _ hj (List.getElem?_eq_getElem hl')
  rcases J.k with h | h
  · exact .inl h.1
  · exact .inr h.1
/-- The week in which a joint truly failed is among those in which it can. -/
theorem true_fails {i : Nat} (hi : i < s.joints.length) : ∃ f : Nat, fs[i]? = some (f : Int) ∧ f ≤ s.heats.length ∧ (failsM s i).testBit f = true := by
  have hj : s.joints[i]? = some s.joints[i] := List.getElem?_eq_getElem hi
  have hl' : i < fs.length := by rw [T.js.len]; exact hi
  have hf : fs[i]? = some fs[i] := List.getElem?_eq_getElem hl'
  have hk := kind_T T hw hj
  obtain ⟨y, hy, e⟩ := true_surv T hw hk hj rfl hf
  refine ⟨y.week, by rw [hf, e], surv_week hy, ?_⟩
  unfold failsM
  rw [maskM_bit]
  have ek : kindAt s i = s.joints[i].kind := by unfold kindAt; rw [hj]; rfl
  refine ⟨y, mem_flsM.2 ⟨skyOf (if s.joints[i].kind = 1 then ht else dt), ?_, ?_, ?_⟩, rfl⟩
  · rw [ek]; exact true_sky T hw _
  · rw [ek]; exact true_ok T hw hk
  · rw [ek]; exact hy
theorem fails_ne {i : Nat} (hi : i < s.joints.length) : failsM s i ≠ 0 := by
  obtain ⟨f, _, _, h⟩ := true_fails T hw hi
  intro e
  rw [e] at h
  simp at h
end
end Go.Wx
/- The own logic, part U: from a walk to the row of a law. Conditions: none. -/
namespace Go.HL
open Go Go.Wx Go.RowKit
/-- What is asked at the end of a law. -/
def lawK (t : Nat) (h0 : AH) : Post
  | .normal, S, D, L, h => D = [] ∧ (Valid h L → Ext h0 (wl h L)) ∧ S t = .bool true
  | .ret, S, D, L, h => D = [] ∧ (Valid h L → Ext h0 (wl h L)) ∧ S t = .bool true
  | _, _, _, _, _ => False
theorem below_of {w w' : World} (se : SameEnv w w') (e : Ext (absH w.heap) (absH w'.heap)) : Below w.heap.size w w' := by
  have hb : ∀ k, k < w.heap.size → w'.heap[k]? = w.heap[k]? := by
    intro k hk
    have h1 : absH w.heap k = some w.heap[k] := Array.getElem?_eq_getElem hk
    have h2 : w'.heap[k]? = some w.heap[k] := e k _ h1
    rw [h2]
    exact (Array.getElem?_eq_getElem hk).symm
  refine ⟨se.os, se.tape, se.output, ?_, hb⟩
  rcases Nat.lt_or_ge w'.heap.size w.heap.size with h1 | h1
  · have h2 := hb w'.heap.size h1
    rw [Array.getElem?_eq_getElem h1] at h2
    simp at h2
  · exact h1
theorem calls_body {P : Program} {f : FuncId} {fn : Func} {c : Code} {args : Array Value} {n t : Nat} {w : World} (hf : P.funcs[f]? = some fn) (hb : fn.body = some c) (hn : fn.ntmps = n) (ha : Nat.ble args.size n = true) (hr : fn.results = #[.tmp t]) (ht : Nat.blt t n = true)
    (x : ∀ h, h = absH w.heap → xp P n none c (lawK t h) (argS args) [] [] h) : Calls P f args w (fun e w' => e = .returned (.bool true) ∧ Below w.heap.size w w') := by
  intro cs
  have he : Frame.enter P f args .normal = mk { (default : Frame) with fn := f, kind := .normal, roundOf := none } n (argS args) [] [.code c] := by
    simp [Frame.enter, mk, hf, hb, hn, enter_tmps n args (Nat.le_of_ble_eq_true ha)]
  have hres : ∀ (S : Sl) (w' : World), S t = .bool true → (results fn (arr n S)).run P w' = .ok (.bool true) w' := by
    intro S w' hs
    unfold results
    rw [hr, List.mapM_toArray]
    have e1 : (arr n S).getD t undef = .bool true := by rw [arr_getD, if_pos (Nat.lt_of_lt_of_le (Nat.lt_succ_self t) (Nat.le_of_ble_eq_true ht)), hs]
    show Result.ok ((arr n S).getD t undef) w' = _
    rw [e1]
  have x1 := x _ rfl (absH w.heap) (by have := Fits.nil (valid_nil (Fin.abs w.heap)); rw [wl_nil] at this; exact this) { (default : Frame) with fn := f, kind := .normal, roundOf := none } rfl [] cs
  have x2 : Rch P (fun fr cs' H => cs' = cs ∧ fr.mode = .returning ∧ fr.defers = [] ∧ fr.kind = .normal ∧ fr.fn = f ∧ (∃ S, fr.tmps = arr n S ∧ S t = .bool true) ∧ Ext (absH w.heap) H) (mk { (default : Frame) with fn := f, kind := .normal, roundOf := none } n (argS args) [] [.code c]) cs (absH w.heap) := by
    refine x1.bind ?_
    rintro fr cs' H ⟨rfl, e, S', D', L', h', V', kk, a⟩
    cases e with
    | normal =>
      obtain ⟨rfl, ex, hs⟩ := kk
      have a' : fr = mk { (default : Frame) with fn := f, kind := .normal, roundOf := none } n S' [] [] := a
      subst a'
      have hH : H = wl h' L' := by rw [V'.eq]; exact hun_nil _
      subst hH
      refine .ctl (fr' := { mk { (default : Frame) with fn := f, kind := .normal, roundOf := none } n S' [] [] with mode := .returning }) (cs' := cs') (fun w => by simp [stepG, stepG.exec, mk]) (.done ⟨rfl, rfl, rfl, rfl, rfl, ⟨S', rfl, hs⟩, ex V'.valid⟩)
    | ret =>
      obtain ⟨rfl, ex, hs⟩ := kk
      obtain ⟨todo, rfl⟩ := a.1 rfl
      have hH : H = wl h' L' := by rw [V'.eq]; exact hun_nil _
      subst hH
      exact .done ⟨rfl, rfl, rfl, rfl, rfl, ⟨S', rfl, hs⟩, ex V'.valid⟩
    | _ => exact kk.elim
  obtain ⟨fr', cs', w', st, se, rfl, hm, hd, hk, hfn, ⟨S, htm, hs⟩, ex⟩ := x2.lone w rfl
  refine ⟨.returned (.bool true), w', fr', ⟨rfl, below_of se ex⟩, ?_, hfn, hm, hd, hk, fn, by rw [hfn]; exact hf, by rw [htm]; exact hres S w' hs⟩
  rw [he]
  exact st
/-- A slice of ints that came in. -/
theorem row_of {w : World} {a : Option Addr} {len cap : Nat} {zs : List Int} (h : (a = none ∧ len = 0 ∧ cap = 0 ∧ zs = []) ∨
    ∃ x, a = some x ∧ len ≤ cap ∧ cap ≤ maxLen ∧ zs.length = cap ∧ (∀ i, i < zs.length → w.cell? (x.add i) = some (.int .i64 (zs.getD i 0))) ∧ ∀ n ∈ zs, (Lit.int .i64 n).wf = true) :
    ∃ l : List Int, l.length = len ∧ Row (absH w.heap) 1 intC a l ∧ len ≤ maxLen ∧ ∀ n ∈ l, (Lit.int .i64 n).wf = true := by
  rcases h with ⟨rfl, rfl, rfl, rfl⟩ | ⟨x, rfl, hl, hm, hz, hc, hw⟩
  · exact ⟨[], rfl, ⟨fun _ h => (by cases h), Rd.nil _ _⟩, Nat.zero_le _, fun _ h => (by cases h)⟩
  · refine ⟨zs.take len, by rw [List.length_take]; omega, ⟨fun _ _ => rfl, ?_⟩, by omega, fun n hn => hw n (List.mem_of_mem_take hn)⟩
    have hflat : ∀ l : List Int, l.flatMap intC = l.map (Value.int .i64) := by
      intro l
      induction l with
      | nil => rfl
      | cons a l ih => simp [List.flatMap_cons, ih, intC]
    rw [hflat]
    intro hne
    have hpos : 0 < zs.length := by
      rcases Nat.eq_zero_or_pos zs.length with h0 | h0
      · rw [List.eq_nil_of_length_eq_zero h0] at hne; simp at hne
      · exact h0
    obtain ⟨g, off, sp⟩ := x
    have h0 := hc 0 hpos
    have hsp : sp = none := by
      cases sp with
      | none => rfl
      | some s =>
        exfalso
        have : w.cell? ((⟨g, off, some s⟩ : Addr).add 0) = none := by
          simp only [Addr.add]
          rw [cell_abs]
          unfold cellA
          split <;> simp
        rw [this] at h0
        cases h0
    subst hsp
    refine ⟨g, off, rfl, fun j u hu => ?_⟩
    have hj : j < zs.length := by
      have := (List.getElem?_eq_some_iff.1 hu).1
      rw [List.length_map, List.length_take] at this
      omega
    have h1 := hc j hj
    rw [cell_abs, add_none] at h1
    rw [h1]
    rw [List.getElem?_map, List.getElem?_take] at hu
    split at hu
    · rw [List.getElem?_eq_getElem hj] at hu
      simp only [Option.map_some, Option.some.injEq] at hu
      rw [← hu]
      simp [List.getD_eq_getElem?_getD, hj]
    · cases hu
end Go.HL
/- The own logic, part CC: guarded operations that turn memory, amid drawn regions. Conditions: none. -/
namespace Go.HL
open Go
variable {P : Program} {n : Nat} {ops : Array Oper} {i : Nat} {d : Option Tmp} {op : Op} {ty : TypeId} {ps : String} {af : Array Edge} {S : Sl} {L : Pv} {h : AH} {mask : List Bool} {X : Sl → AH → Prop} {dn ac : List Nat}
theorem dw_effG {j : Nat} {want t : Bool} (hoi : ops[i]? = some ⟨d, op, ty, ps, af, some (j, want)⟩) (hok : okE ops dn i = true)
    (ht : ev n S (.tmp (((ops[j]?).bind (·.dst)).getD n)) = .bool t) (hb : t = want) (w : wpL P n ops [⟨d, op, ty, ps, af, none⟩] (fun S' L' h' => Ext (wl h (rmM mask L)) (wl h' (rmM mask L')) ∧ Dw P n ops mask X (i :: dn) (i :: ac) S' L' h') (fun _ _ _ _ => False) S L h) : Dw P n ops mask X dn ac S L h := by
  intro V G hG
  unfold okE at hok
  rw [hoi] at hok
  simp only [Bool.and_eq_true] at hok
  obtain ⟨⟨hr, hbl⟩, hap⟩ := hok
  obtain ⟨m, hm⟩ := left_pos hr
  obtain ⟨hi, hdi⟩ := ready_lt hr
  rw [hm]
  refine take_any hoi m dn ac G S (wl h L) (fin_wl V) hm hr ?_ ?_ (fun g hg => (hG g hg).2.1) ?_ ?_
  · intro x hx
    have := List.all_eq_true.1 hbl x ((el_mem _ _).1 hx)
    simpa using this
  · intro g hg _
    exact (hG g hg).2.1 _ _ (ext_rm V) (hG g hg).2.2
  · intro j oj hoj hji hdj hbj
    have hjl : j < ops.size := (Array.getElem?_eq_some_iff.1 hoj).1
    have := List.all_eq_true.1 hap j (by simpa using hjl)
    rw [hoj, hdj, hbj] at this
    simp only [Bool.or_false, Bool.or_eq_true, beq_iff_eq, Bool.and_eq_true, Option.isNone_iff_eq_none] at this
    obtain ⟨⟨h1, h2⟩, h3⟩ := this.resolve_left hji
    exact ⟨h1, h2, h3⟩
  · refine ⟨some t, by rw [ht]; rfl, fun _ => ?_, fun hn => absurd (congrArg some hb) hn⟩
    show opW P n ⟨d, op, ty, ps, af, none⟩ S (wl h L) _ noE
    refine opW_mono ?_ ?_ (w V)
    · rintro v H ⟨L', h', rfl, V', hE, hD⟩
      have hG' : ∀ g ∈ G, ((∀ H, g.2 H) ∨ (isLd ops g.1 = true ∧ el g.1 (i :: dn) = true)) ∧ (∀ H1 H2, Ext H1 H2 → g.2 H1 → g.2 H2) ∧ g.2 (wl h' (rmM mask L')) := by
        intro g hg
        obtain ⟨h1, h2, h3⟩ := hG g hg
        exact ⟨h1.imp id (fun e => ⟨e.1, by simp [el_cons, e.2]⟩), h2, h2 _ _ hE h3⟩
      refine ⟨fun g hg _ => (hG' g hg).2.1 _ _ (ext_rm V') (hG' g hg).2.2, ?_⟩
      have := hD V' G hG'
      rw [left_cons hi hdi hm] at this
      exact this
    · rintro v H ⟨L', h', rfl, V', y⟩; exact y
theorem dw_lastG {j : Nat} {want t : Bool} (hoi : ops[i]? = some ⟨d, op, ty, ps, af, some (j, want)⟩) (hok : okE ops dn i = true) (hl : okL ops dn i = true)
    (ht : ev n S (.tmp (((ops[j]?).bind (·.dst)).getD n)) = .bool t) (hb : t = want) (w : wpL P n ops [⟨d, op, ty, ps, af, none⟩] (fun S' L' h' => Dw P n ops mask X (i :: dn) (i :: ac) S' L' h') (fun _ _ _ _ => False) S L h) : Dw P n ops mask X dn ac S L h := by
  intro V G hG
  unfold okE at hok
  rw [hoi] at hok
  simp only [Bool.and_eq_true] at hok
  obtain ⟨⟨hr, hbl⟩, hap⟩ := hok
  obtain ⟨m, hm⟩ := left_pos hr
  obtain ⟨hi, hdi⟩ := ready_lt hr
  rw [hm]
  refine take_any hoi m dn ac G S (wl h L) (fin_wl V) hm hr ?_ ?_ (fun g hg => (hG g hg).2.1) ?_ ?_
  · intro x hx
    have := List.all_eq_true.1 hbl x ((el_mem _ _).1 hx)
    simpa using this
  · intro g hg _
    exact (hG g hg).2.1 _ _ (ext_rm V) (hG g hg).2.2
  · intro j oj hoj hji hdj hbj
    have hjl : j < ops.size := (Array.getElem?_eq_some_iff.1 hoj).1
    have := List.all_eq_true.1 hap j (by simpa using hjl)
    rw [hoj, hdj, hbj] at this
    simp only [Bool.or_false, Bool.or_eq_true, beq_iff_eq, Bool.and_eq_true, Option.isNone_iff_eq_none] at this
    obtain ⟨⟨h1, h2⟩, h3⟩ := this.resolve_left hji
    exact ⟨h1, h2, h3⟩
  · refine ⟨some t, by rw [ht]; rfl, fun _ => ?_, fun hn => absurd (congrArg some hb) hn⟩
    show opW P n ⟨d, op, ty, ps, af, none⟩ S (wl h L) _ noE
    refine opW_mono ?_ ?_ (w V)
    · rintro v H ⟨L', h', rfl, V', hD⟩
      -- the facts that are still asked hold everywhere
      have hdead : ∀ g ∈ G, (∀ H, g.2 H) ∨ ¬ alive ops (i :: ac) g.1 := by
        intro g hg
        rcases (hG g hg).1 with h1 | ⟨h1, h2⟩
        · exact .inl h1
        · right
          intro a
          have := List.all_eq_true.1 hl g.1 ((el_mem _ _).1 h2)
          rw [h1] at this
          simp only [Bool.not_true, Bool.false_or] at this
          have := a i this
          simp [el_cons] at this
      refine ⟨fun g hg a => ((hdead g hg).resolve_right (fun n => n a)) _, ?_⟩
      have hall : ∀ (m : Nat) (dn' ac' : List Nat) (S' : Sl) (H' : AH), (∀ k, el k (i :: ac) = true → el k ac' = true) → WG P n ops m dn' ac' [] X S' H' → WG P n ops m dn' ac' G X S' H' := by
        intro m
        induction m with
        | zero => intro dn' ac' S' H' _ w; exact w
        | succ m ih =>
          intro dn' ac' S' H' hsub w j oj hoj hrj
          refine T1_mono (fun S2 H2 y => ⟨fun g hg a => ?_, ih _ _ _ _ (fun k hk => by simp [el_cons, hsub k hk]) y.2⟩) (w j oj hoj hrj)
          exact ((hdead g hg).resolve_right (fun n => n (alive_less (fun k hk => by simp [el_cons, hsub k hk]) a))) _
      have := hD V' [] (fun g hg => by cases hg)
      rw [left_cons hi hdi hm] at this
      exact hall m _ _ _ _ (fun _ h => h) this
    · rintro v H ⟨L', h', rfl, V', y⟩; exact y
end Go.HL
/- Walks: the law that goes week by week. Conditions: as each theorem states. -/
namespace Go.Proofs.Ytndfkbapoinmkaa
open Go Go.HL Go.Proofs Go.Wx Go.RowKit
set_option maxRecDepth 100000
theorem SeasonT.small {a b c : Nat} {s : Season} {ht dt fs : List Int} (T : SeasonT a b c s ht dt fs) (ha : a ≤ 6) (hb : b ≤ 3) (hc : c ≤ 100) : Small s := by
  have := T.hn.len; have := T.dn.len; have := T.dl; have := T.ww; have := T.jl; have := T.rl
  exact ⟨by omega, by omega, by omega, by omega⟩
section
variable {a b c : Nat} {s : Season} {ht dt fs : List Int} (T : SeasonT a b c s ht dt fs) (ha : a ≤ 6) (hb : b ≤ 3) (hc : c ≤ 5)
include T ha hb hc
theorem known_T {es : List Int} (he : ∀ e ∈ es, e = 0) : knownM s es = 0 := by
  unfold knownM
  rw [check_T T ha hb hc, if_neg (by simp), firstErr_all (f := id) he, if_neg (by simp), may_T T ha]
  rfl
theorem isJoint_lt {s : Season} {j : Nat} (hj : j < s.joints.length) : isJointM s j = 0 := by
  unfold isJointM inM
  rw [if_pos (by simp; omega)]
theorem isWeek_lt {s : Season} {w : Nat} (hw : w < s.heats.length) : isWeekM s w = 0 := by
  unfold isWeekM inM
  rw [if_pos (by simp; omega)]
theorem failsE_T {j : Nat} (hj : j < s.joints.length) : failsE s j = 0 := known_T T ha hb hc (by simp [isJoint_lt T ha hb hc hj])
theorem failsL_T {j : Nat} (hj : j < s.joints.length) : failsL s j = listM (failsM s j) := by
  unfold failsL
  rw [failsE_T T ha hb hc hj]
  rfl
theorem failedE_T {j w : Nat} (hj : j < s.joints.length) (hw : w < s.heats.length) : failedE s j w = 0 := known_T T ha hb hc (by simp [isJoint_lt T ha hb hc hj, isWeek_lt T ha hb hc hw])
theorem failedV_T {j w : Nat} (hj : j < s.joints.length) (hw : w < s.heats.length) : failedV s j w = failedM s j w := by
  unfold failedV
  rw [failedE_T T ha hb hc hj hw]
  rfl
end
def beforeM (s : Season) (j : Nat) : Nat → Int
  | 0 => 2
  | w + 1 => failedM s j w
theorem list_pos : ∀ m : Fin 128, m.val ≠ 0 → 0 < (listM m.val).length := by decide +kernel
/-- What the weeks of a set say of a week. -/
theorem failedM_ends {s : Season} (h6 : s.heats.length ≤ 6) {j w : Nat} (hn : failsM s j ≠ 0) (hw : w < 7) : failedM s j w = verdictM (decide ((listM (failsM s j)).headD 0 ≤ (w : Int))) (decide ((listM (failsM s j)).getLastD 0 > (w : Int))) := by
  obtain ⟨h1, h2, _⟩ := list_ends ⟨failsM s j, failsM_lt h6 j⟩ ⟨w, hw⟩ hn
  unfold failedM
  dsimp only at h1 h2
  rw [h1, h2]
theorem before_always {s : Season} (h6 : s.heats.length ≤ 6) {j w : Nat} (hn : failsM s j ≠ 0) (hw : w < 7) (h : beforeM s j w = 1) : failedM s j w = 1 := by
  cases w with
  | zero => simp [beforeM] at h
  | succ w =>
    simp only [beforeM] at h
    rw [failedM_ends h6 hn (by omega)] at h ⊢
    unfold verdictM at h ⊢
    simp only [gt_iff_lt, Bool.not_eq_true', decide_eq_false_iff_not, Int.not_lt] at h ⊢
    split at h
    · rw [if_pos (by omega)]
    · split at h <;> cases h
theorem before_never {s : Season} (h6 : s.heats.length ≤ 6) {j w : Nat} (hn : failsM s j ≠ 0) (hw : w < 7) (h : failedM s j w = 2) : beforeM s j w = 2 := by
  cases w with
  | zero => rfl
  | succ w =>
    simp only [beforeM]
    obtain ⟨_, _, h3⟩ := list_ends ⟨failsM s j, failsM_lt h6 j⟩ ⟨w, by omega⟩ hn
    dsimp only at h3
    rw [failedM_ends h6 hn (by omega)] at h ⊢
    unfold verdictM at h ⊢
    simp only [gt_iff_lt, Bool.not_eq_true', decide_eq_false_iff_not, Int.not_lt] at h ⊢
    split at h
    · cases h
    · split at h
      · rw [if_neg (by omega), if_pos (by omega)]
      · cases h
set_option maxHeartbeats 4000000 in
theorem later_calls (w : World) (l : List Int) (hl : l.length < 2 ^ 63) (A : Option Addr) (c : Nat) (R : Row (absH w.heap) 1 intC A l) : Calls Try.prog 4 #[.slice A l.length c] w (fun e w' => e = .returned (.bool true) ∧ Below w.heap.size w w') := by
  refine calls_body Try.func4 rfl Try.ntmps4 rfl Try.results4 rfl fun h hh => ?_
  rw [← hh] at R
  refine xp_seq ?_
  refine xp_region rfl ?_
  refine op_pure (pv_assign (v := .bool _) rfl) ?_
  refine xp_seq ?_
  refine xp_region rfl ?_
  refine op_pure (pv_move (v := .slice _ _ _) rfl) ?_
  refine op_fnMM [] [] [] rfl rfl rfl ((NewPot_ok l hl A c h R)) ?_
  rintro _ h1 _ E1 ⟨b, x, rfl, rfl⟩
  refine wp_norm [_] rfl ?_
  refine op_fnMM [] [_] [] (vs := _) rfl rfl rfl ((SeasonOf_ok b x 5 3 3 (by omega) (by omega) (by omega) (by omega) h1)) ?_
  rintro _ h2 _ E2 ⟨x2, s, ht, dt, fs, _, _, rfl, rfl, ⟨A0, A1, A2, A3, c0, c1, c2, c3, rfl, RS⟩, T, HA, hc, DA, dc, FA, fc, rfl, R1, R2, R3⟩
  refine wp_norm [_] rfl ?_
  refine op_pure (pv_move (v := .tuple #[.agg #[.slice _ _ _, .slice _ _ _, .slice _ _ _, .slice _ _ _], .agg #[.slice _ _ _, .slice _ _ _, .slice _ _ _]]) rfl) ?_
  refine op_pure (pv_of (v := .agg #[.slice _ _ _, .slice _ _ _, .slice _ _ _, .slice _ _ _]) rfl) ?_
  refine op_pure (pv_of (v := .agg #[.slice _ _ _, .slice _ _ _, .slice _ _ _]) rfl) ?_
  refine op_alloc (cs := [_, _, _, _]) rfl rfl fun b3 hb3 => ?_
  refine wp_norm [_, _] rfl ?_
  refine op_alloc (cs := [_, _, _]) rfl rfl fun b4 hb4 => ?_
  refine wp_norm [_, _, _] rfl ?_
  refine op_storeP 1 (v := .agg #[.slice _ _ _, .slice _ _ _, .slice _ _ _, .slice _ _ _]) (vs := [_, _, _, _]) (c' := [_, _, _, _]) rfl rfl rfl rfl rfl rfl rfl rfl rfl ?_
  refine wp_norm [_, _, _] rfl ?_
  refine op_storeP 2 (v := .agg #[.slice _ _ _, .slice _ _ _, .slice _ _ _]) (vs := [_, _, _]) (c' := [_, _, _]) rfl rfl rfl rfl rfl rfl rfl rfl rfl ?_
  refine wp_norm [_, _, _] rfl ?_
  refine xp_seq ?_
  refine xp_seq ?_
  refine xp_region rfl ?_
  refine op_pure (pv_assign (v := .int .i64 _) rfl) ?_
  refine xp_block ?_
  have Sm : Small s := SeasonT.small T (by omega) (by omega) (by omega)
  have h6 : s.heats.length ≤ 6 := by have := T.hn.len; have := T.ww; omega
  have j3 : s.joints.length ≤ 3 := T.jl
  refine xp_loopB [2, 5, 6, 7, 8, 9, 10, 11, 18, 19, 20, 21, 22, 23, 24, 25, 26, 27, 28, 29, 30, 31, 32, 33, 34, 35, 36, 37, 38, 39, 40, 41, 42, 43, 44, 45, 46, 47, 48, 49, 50, 51, 52, 53, 54, 55, 56, 57, 58, 59, 60, 61, 62, 63, 64, 65, 66, 67, 68, 69, 70, 71, 72, 73, 74, 75, 76, 77, 78, 79, 80, 81, 82, 83, 84, 85, 86, 87, 88] 3 (α := Nat) (fun j => [(5, .int .i64 j)]) (fun j => _) (fun j h_j => j ≤ s.joints.length) (fun j => s.joints.length - j) (0) ⟨rfl, trivial⟩ (rfl) (Nat.zero_le _) ?_
  rintro j T1 h_j E_j J_j
  refine goes_norm [_, _, _] rfl ?_
  refine xp_seq ?_
  refine xp_seq ?_
  refine xp_region rfl ?_
  refine op_pure (pv_move (v := .int .i64 _) rfl) ?_
  refine op_pure (pv_fieldAddr rfl rfl rfl rfl 2 rfl) ?_
  refine op_loadP 1 (v := .slice _ _ _) rfl rfl rfl rfl ?_
  refine op_pure (pv_len rfl rfl) ?_
  refine op_pure (pv_of (v := .bool _) rfl) ?_
  refine xp_cond rfl (fun hj => ?_) (fun hj => ?_)
  · skip
    have hj' : j < s.joints.length := by have := of_decide_eq_true hj; omega
    have hn := fails_ne T (by omega) hj'
    have hpos : 0 < (listM (failsM s j)).length := list_pos ⟨failsM s j, failsM_lt h6 j⟩ hn
    have hlen : (listM (failsM s j)).length ≤ 7 := listN_len _ _
    refine xp_skip ?_
    refine xp_seq ?_
    refine xp_block ?_
    refine xp_seq ?_
    refine xp_region rfl ?_
    refine op_loadPA 1 (vs := [.slice _ _ _, .slice _ _ _, .slice _ _ _, .slice _ _ _]) rfl rfl rfl rfl rfl ?_
    refine op_pure (pv_move (v := .int .i64 _) rfl) ?_
    have HF := Fails_ok s Sm j A0 A1 A2 A3 c0 c1 c2 c3 h_j (RS.ext E_j)
    rw [failsE_T T (by omega) (by omega) (by omega) hj', failsL_T T (by omega) (by omega) (by omega) hj'] at HF
    refine op_fn (caps := []) (vs := [.agg #[.slice _ _ _, .slice _ _ _, .slice _ _ _, .slice _ _ _], .int .i64 _]) rfl rfl rfl (HF) ?_
    rintro _ h3 E3 ⟨_, rfl, B, d, rfl, RL⟩
    refine op_pure (pv_move (v := .tuple #[.slice _ _ _, .int .i64 _]) rfl) ?_
    refine op_pure (pv_of (v := .slice _ _ _) rfl) ?_
    refine op_pure (pv_of (v := .int .i64 _) rfl) ?_
    refine op_pure (pv_assign (v := .slice _ _ _) rfl) ?_
    refine op_pure (pv_assign (v := .int .i64 _) rfl) ?_
    refine xp_seq ?_
    refine xp_seq ?_
    refine xp_region rfl ?_
    refine op_pure (pv_move (v := .int .i64 _) rfl) ?_
    refine op_pure (pv_of (v := .bool _) rfl) ?_
    refine op_pure (pv_move (v := .bool _) rfl) ?_
    refine guard_yes rfl rfl ?_
    refine op_pure (pv_move (v := .slice _ _ _) rfl) ?_
    refine guard_yes rfl rfl ?_
    refine op_pure (pv_len rfl rfl) ?_
    refine guard_yes rfl rfl ?_
    refine op_pure (pv_of (v := .bool _) rfl) ?_
    refine op_pure (pv_pickF rfl rfl (v := .bool _) rfl) ?_
    refine xp_condF rfl ((decide_eq_false (by omega))) ?_
    refine xp_skip ?_
    refine xp_seq ?_
    refine xp_region rfl ?_
    refine op_pure (pv_assign (v := .int .i64 _) rfl) ?_
    refine xp_seq ?_
    refine xp_region rfl ?_
    refine op_pure (pv_assign (v := .int .i64 _) rfl) ?_
    refine xp_block ?_
    obtain ⟨gL, oL, rfl, _⟩ := RL.at (by omega) (i := 0) hpos
    have C0 : Cells h3 gL oL (intC ((listM (failsM s j)).headD 0)) := by
      obtain ⟨_, _, e, C⟩ := RL.at (by omega) (i := 0) hpos
      cases e
      simpa [List.head?_eq_getElem?, List.headD_eq_head?_getD, List.getElem?_eq_getElem hpos] using C
    have C1 : Cells h3 gL (oL + (((listM (failsM s j)).length : Int) - 1).toNat * 1) (intC ((listM (failsM s j)).getLastD 0)) := by
      obtain ⟨_, _, e, C⟩ := RL.at (by omega) (i := (listM (failsM s j)).length - 1) (by omega)
      cases e
      have : (listM (failsM s j)).getLastD 0 = (listM (failsM s j))[(listM (failsM s j)).length - 1]'(by omega) := by
        rw [List.getLastD_eq_getLast?, List.getLast?_eq_getElem?, List.getElem?_eq_getElem (by omega)]
        rfl
      rw [this, show (((listM (failsM s j)).length : Int) - 1).toNat = (listM (failsM s j)).length - 1 from by omega]
      exact C
    refine xp_loopB [2, 8, 9, 10, 11, 38, 39, 40, 41, 42, 43, 44, 45, 46, 47, 48, 49, 50, 51, 52, 53, 54, 55, 56, 57, 58, 59, 60, 61, 62, 63, 64, 65, 66, 67, 68, 69, 70, 71, 72, 73, 74, 75, 76, 77, 78, 79, 80, 81, 82, 83, 84, 85, 86, 87, 88] 3 (α := Nat) (fun w => [(9, .int .i64 w), (8, .int .i64 (beforeM s j w))]) (fun w => _) (fun w h_w => w ≤ s.heats.length) (fun w => s.heats.length - w) (0) ⟨rfl, rfl, trivial⟩ (rfl) (Nat.zero_le _) ?_
    rintro w T2 h_w E_w J_w
    refine goes_norm [_, _, _] rfl ?_
    refine xp_seq ?_
    refine xp_seq ?_
    refine xp_region rfl ?_
    refine op_pure (pv_move (v := .int .i64 _) rfl) ?_
    refine op_pure (pv_fieldAddr rfl rfl rfl rfl 0 rfl) ?_
    refine op_loadP 1 (v := .slice _ _ _) rfl rfl rfl rfl ?_
    refine op_pure (pv_len rfl rfl) ?_
    refine op_pure (pv_of (v := .bool _) rfl) ?_
    refine xp_cond rfl (fun hw => ?_) (fun hw => ?_)
    · skip
      have hw' : w < s.heats.length := by have := of_decide_eq_true hw; omega
      refine xp_skip ?_
      refine xp_seq ?_
      refine xp_block ?_
      refine xp_seq ?_
      refine xp_region rfl ?_
      refine op_loadPA 1 (vs := [.slice _ _ _, .slice _ _ _, .slice _ _ _, .slice _ _ _]) rfl rfl rfl rfl rfl ?_
      refine op_pure (pv_move (v := .int .i64 _) rfl) ?_
      refine op_pure (pv_move (v := .int .i64 _) rfl) ?_
      have HD := Failed_ok s Sm j w A0 A1 A2 A3 c0 c1 c2 c3 h_w (RS.ext (Ext.trans (Ext.trans E_j E3) E_w))
      rw [failedE_T T (by omega) (by omega) (by omega) hj' hw', failedV_T T (by omega) (by omega) (by omega) hj' hw'] at HD
      refine op_fn (caps := []) (vs := [.agg #[.slice _ _ _, .slice _ _ _, .slice _ _ _, .slice _ _ _], .int .i64 _, .int .i64 _]) rfl rfl rfl (HD) ?_
      rintro _ h4 E4 rfl
      have eV := failedM_ends h6 hn (show w < 7 by omega)
      rcases Bool.eq_false_or_eq_true (decide (beforeM s j w = 1)) with k1 | k1
      · skip
        have kv := before_always h6 hn (show w < 7 by omega) (of_decide_eq_true k1)
        have kv1 : (!decide (failedM s j w = 1)) = false := by rw [kv]; rfl
        have k2 : decide (failedM s j w = 2) = false := by rw [kv]; rfl
        refine op_pure (pv_move (v := .tuple #[.int .i64 _, .int .i64 _]) rfl) ?_
        refine op_pure (pv_of (v := .int .i64 _) rfl) ?_
        refine op_pure (pv_of (v := .int .i64 _) rfl) ?_
        refine op_pure (pv_assign (v := .int .i64 _) rfl) ?_
        refine op_pure (pv_assign (v := .int .i64 _) rfl) ?_
        refine xp_seq ?_
        refine xp_seq ?_
        refine xp_dw [] rfl rfl rfl ?_
        refine dw_pure (i := 0) rfl (by decide +kernel) (pv_move (v := .int .i64 _) rfl) ?_
        refine dw_pure (i := 1) rfl (by decide +kernel) (pv_of (v := .bool _) rfl) ?_
        refine dw_pure (i := 2) rfl (by decide +kernel) (pv_move (v := .bool _) rfl) ?_
        refine dw_pureG (i := 3) rfl (by decide +kernel) rfl rfl (pv_move (v := .int .i64 _) rfl) ?_
        refine dw_pureG (i := 4) rfl (by decide +kernel) rfl rfl (pv_of (v := .bool _) rfl) ?_
        refine dw_pureG (i := 5) rfl (by decide +kernel) rfl rfl (pv_move (v := .bool _) rfl) ?_
        refine dw_pureG (i := 6) rfl (by decide +kernel) rfl k1 (pv_move (v := .int .i64 _) rfl) ?_
        refine dw_pureG (i := 7) rfl (by decide +kernel) rfl k1 (pv_of (v := .bool _) rfl) ?_
        refine dw_pureG (i := 8) rfl (by decide +kernel) rfl rfl (pv_pickT rfl k1 (v := .bool _) rfl) ?_
        refine dw_pure (i := 9) rfl (by decide +kernel) (pv_pickF rfl rfl (v := .bool _) rfl) ?_
        refine dw_pure (i := 10) rfl (by decide +kernel) (pv_move (v := .bool _) rfl) ?_
        refine dw_pureG (i := 11) rfl (by decide +kernel) rfl kv1 (pv_move (v := .int .i64 _) rfl) ?_
        refine dw_pureG (i := 12) rfl (by decide +kernel) rfl kv1 (pv_of (v := .bool _) rfl) ?_
        refine dw_pureG (i := 13) rfl (by decide +kernel) rfl kv1 (pv_move (v := .bool _) rfl) ?_
        refine dw_skip (i := 14) rfl (by decide +kernel) rfl k2 ?_
        refine dw_skip (i := 15) rfl (by decide +kernel) rfl k2 ?_
        refine dw_pureG (i := 16) rfl (by decide +kernel) rfl kv1 (pv_pickF rfl k2 (v := .bool _) rfl) ?_
        refine dw_pure (i := 17) rfl (by decide +kernel) (pv_pickF rfl kv1 (v := .bool _) rfl) ?_
        refine dw_pure (i := 18) rfl (by decide +kernel) (pv_move (v := .bool _) rfl) ?_
        refine dw_pureG (i := 19) rfl (by decide +kernel) rfl rfl (pv_move (v := .int .i64 _) rfl) ?_
        refine dw_pureG (i := 20) rfl (by decide +kernel) rfl rfl (pv_move (v := .slice _ _ _) rfl) ?_
        refine dw_pureG (i := 21) rfl (by decide +kernel) rfl rfl (pv_index rfl rfl rfl rfl (by omega) (by omega)) ?_
        refine dw_loadG (i := 22) rfl (by decide +kernel) rfl rfl ?_
        refine op_load (v := .int .i64 _) rfl rfl (((C0.ext (Ext.trans E_w E4))) 0 _ rfl) ?_
        refine dw_pureG (i := 23) rfl (by decide +kernel) rfl rfl (pv_move (v := .int .i64 _) rfl) ?_
        refine dw_pureG (i := 24) rfl (by decide +kernel) rfl rfl (pv_of (v := .bool _) rfl) ?_
        refine dw_pureG (i := 25) rfl (by decide +kernel) rfl rfl (pv_move (v := .slice _ _ _) rfl) ?_
        refine dw_pureG (i := 26) rfl (by decide +kernel) rfl rfl (pv_move (v := .slice _ _ _) rfl) ?_
        refine dw_pureG (i := 27) rfl (by decide +kernel) rfl rfl (pv_len rfl rfl) ?_
        refine dw_pureG (i := 28) rfl (by decide +kernel) rfl rfl (pv_arith rfl (by omega)) ?_
        refine dw_pureG (i := 29) rfl (by decide +kernel) rfl rfl (pv_index rfl rfl rfl rfl (by omega) (by omega)) ?_
        refine dw_loadG (i := 30) rfl (by decide +kernel) rfl rfl ?_
        refine op_load (v := .int .i64 _) rfl rfl (((C1.ext (Ext.trans E_w E4))) 0 _ rfl) ?_
        refine dw_pureG (i := 31) rfl (by decide +kernel) rfl rfl (pv_move (v := .int .i64 _) rfl) ?_
        refine dw_pureG (i := 32) rfl (by decide +kernel) rfl rfl (pv_of (v := .bool _) rfl) ?_
        refine dw_lastG (i := 33) rfl (by decide +kernel) (by decide +kernel) rfl rfl ?_
        refine op_fn (caps := []) (vs := [.bool _, .bool _]) rfl rfl rfl (lawVerdict_ok _ _ h4) ?_
        rintro _ h5 E5 rfl
        refine dw_pureG (i := 34) rfl (by decide +kernel) rfl rfl (pv_of (v := .bool _) rfl) ?_
        refine dw_pure (i := 35) rfl (by decide +kernel) (pv_pickF rfl rfl (v := .bool _) rfl) ?_
        refine dw_end rfl ?_
        refine xp_condF rfl ((by simp [eV, verdictM])) ?_
        refine xp_skip ?_
        refine xp_region rfl ?_
        refine op_pure (pv_move (v := .int .i64 _) rfl) ?_
        refine op_pure (pv_assign (v := .int .i64 _) rfl) ?_
        refine xp_region rfl ?_
        refine op_pure (pv_move (v := .int .i64 _) rfl) ?_
        refine op_pure (pv_arith rfl (by omega)) ?_
        refine op_pure (pv_assign (v := .int .i64 _) rfl) ?_
        refine ⟨w + 1, ⟨rfl, rfl, trivial⟩, rfl, rfl, (Ext.trans (Ext.trans E_w E4) E5), fun h3 E3 => by omega, by first | omega | (dsimp only; omega), ?_⟩
        repeat (first | exact off_base _ _ _ | refine off_upd (by decide) ?_ | refine off_updL rfl ?_ | refine off_mix rfl ?_)
      · skip
        rcases Bool.eq_false_or_eq_true (decide (failedM s j w = 2)) with k2 | k2
        · skip
          have kb := before_never h6 hn (show w < 7 by omega) (of_decide_eq_true k2)
          have kb1 : (!decide (beforeM s j w = 2)) = false := by rw [kb]; rfl
          refine op_pure (pv_move (v := .tuple #[.int .i64 _, .int .i64 _]) rfl) ?_
          refine op_pure (pv_of (v := .int .i64 _) rfl) ?_
          refine op_pure (pv_of (v := .int .i64 _) rfl) ?_
          refine op_pure (pv_assign (v := .int .i64 _) rfl) ?_
          refine op_pure (pv_assign (v := .int .i64 _) rfl) ?_
          refine xp_seq ?_
          refine xp_seq ?_
          refine xp_dw [] rfl rfl rfl ?_
          refine dw_pure (i := 0) rfl (by decide +kernel) (pv_move (v := .int .i64 _) rfl) ?_
          refine dw_pure (i := 1) rfl (by decide +kernel) (pv_of (v := .bool _) rfl) ?_
          refine dw_pure (i := 2) rfl (by decide +kernel) (pv_move (v := .bool _) rfl) ?_
          refine dw_pureG (i := 3) rfl (by decide +kernel) rfl rfl (pv_move (v := .int .i64 _) rfl) ?_
          refine dw_pureG (i := 4) rfl (by decide +kernel) rfl rfl (pv_of (v := .bool _) rfl) ?_
          refine dw_pureG (i := 5) rfl (by decide +kernel) rfl rfl (pv_move (v := .bool _) rfl) ?_
          refine dw_skip (i := 6) rfl (by decide +kernel) rfl k1 ?_
          refine dw_skip (i := 7) rfl (by decide +kernel) rfl k1 ?_
          refine dw_pureG (i := 8) rfl (by decide +kernel) rfl rfl (pv_pickF rfl k1 (v := .bool _) rfl) ?_
          refine dw_pure (i := 9) rfl (by decide +kernel) (pv_pickF rfl rfl (v := .bool _) rfl) ?_
          refine dw_pure (i := 10) rfl (by decide +kernel) (pv_move (v := .bool _) rfl) ?_
          refine dw_pureG (i := 11) rfl (by decide +kernel) rfl rfl (pv_move (v := .int .i64 _) rfl) ?_
          refine dw_pureG (i := 12) rfl (by decide +kernel) rfl rfl (pv_of (v := .bool _) rfl) ?_
          refine dw_pureG (i := 13) rfl (by decide +kernel) rfl rfl (pv_move (v := .bool _) rfl) ?_
          refine dw_pureG (i := 14) rfl (by decide +kernel) rfl k2 (pv_move (v := .int .i64 _) rfl) ?_
          refine dw_pureG (i := 15) rfl (by decide +kernel) rfl k2 (pv_of (v := .bool _) rfl) ?_
          refine dw_pureG (i := 16) rfl (by decide +kernel) rfl rfl (pv_pickT rfl k2 (v := .bool _) rfl) ?_
          refine dw_pure (i := 17) rfl (by decide +kernel) (pv_pickF rfl rfl (v := .bool _) rfl) ?_
          refine dw_pure (i := 18) rfl (by decide +kernel) (pv_move (v := .bool _) rfl) ?_
          refine dw_pureG (i := 19) rfl (by decide +kernel) rfl kb1 (pv_move (v := .int .i64 _) rfl) ?_
          refine dw_pureG (i := 20) rfl (by decide +kernel) rfl kb1 (pv_move (v := .slice _ _ _) rfl) ?_
          refine dw_pureG (i := 21) rfl (by decide +kernel) rfl kb1 (pv_index rfl rfl rfl rfl (by omega) (by omega)) ?_
          refine dw_loadG (i := 22) rfl (by decide +kernel) rfl kb1 ?_
          refine op_load (v := .int .i64 _) rfl rfl (((C0.ext (Ext.trans E_w E4))) 0 _ rfl) ?_
          refine dw_pureG (i := 23) rfl (by decide +kernel) rfl kb1 (pv_move (v := .int .i64 _) rfl) ?_
          refine dw_pureG (i := 24) rfl (by decide +kernel) rfl kb1 (pv_of (v := .bool _) rfl) ?_
          refine dw_pureG (i := 25) rfl (by decide +kernel) rfl kb1 (pv_move (v := .slice _ _ _) rfl) ?_
          refine dw_pureG (i := 26) rfl (by decide +kernel) rfl kb1 (pv_move (v := .slice _ _ _) rfl) ?_
          refine dw_pureG (i := 27) rfl (by decide +kernel) rfl kb1 (pv_len rfl rfl) ?_
          refine dw_pureG (i := 28) rfl (by decide +kernel) rfl kb1 (pv_arith rfl (by omega)) ?_
          refine dw_pureG (i := 29) rfl (by decide +kernel) rfl kb1 (pv_index rfl rfl rfl rfl (by omega) (by omega)) ?_
          refine dw_loadG (i := 30) rfl (by decide +kernel) rfl kb1 ?_
          refine op_load (v := .int .i64 _) rfl rfl (((C1.ext (Ext.trans E_w E4))) 0 _ rfl) ?_
          refine dw_pureG (i := 31) rfl (by decide +kernel) rfl kb1 (pv_move (v := .int .i64 _) rfl) ?_
          refine dw_pureG (i := 32) rfl (by decide +kernel) rfl kb1 (pv_of (v := .bool _) rfl) ?_
          refine dw_lastG (i := 33) rfl (by decide +kernel) (by decide +kernel) rfl kb1 ?_
          refine op_fn (caps := []) (vs := [.bool _, .bool _]) rfl rfl rfl (lawVerdict_ok _ _ h4) ?_
          rintro _ h5 E5 rfl
          refine dw_pureG (i := 34) rfl (by decide +kernel) rfl kb1 (pv_of (v := .bool _) rfl) ?_
          refine dw_pure (i := 35) rfl (by decide +kernel) (pv_pickF rfl kb1 (v := .bool _) rfl) ?_
          refine dw_end rfl ?_
          refine xp_condF rfl ((by simp [eV, verdictM])) ?_
          refine xp_skip ?_
          refine xp_region rfl ?_
          refine op_pure (pv_move (v := .int .i64 _) rfl) ?_
          refine op_pure (pv_assign (v := .int .i64 _) rfl) ?_
          refine xp_region rfl ?_
          refine op_pure (pv_move (v := .int .i64 _) rfl) ?_
          refine op_pure (pv_arith rfl (by omega)) ?_
          refine op_pure (pv_assign (v := .int .i64 _) rfl) ?_
          refine ⟨w + 1, ⟨rfl, rfl, trivial⟩, rfl, rfl, (Ext.trans (Ext.trans E_w E4) E5), fun h3 E3 => by omega, by first | omega | (dsimp only; omega), ?_⟩
          repeat (first | exact off_base _ _ _ | refine off_upd (by decide) ?_ | refine off_updL rfl ?_ | refine off_mix rfl ?_)
        · skip
          refine op_pure (pv_move (v := .tuple #[.int .i64 _, .int .i64 _]) rfl) ?_
          refine op_pure (pv_of (v := .int .i64 _) rfl) ?_
          refine op_pure (pv_of (v := .int .i64 _) rfl) ?_
          refine op_pure (pv_assign (v := .int .i64 _) rfl) ?_
          refine op_pure (pv_assign (v := .int .i64 _) rfl) ?_
          refine xp_seq ?_
          refine xp_seq ?_
          refine xp_dw [] rfl rfl rfl ?_
          refine dw_pure (i := 0) rfl (by decide +kernel) (pv_move (v := .int .i64 _) rfl) ?_
          refine dw_pure (i := 1) rfl (by decide +kernel) (pv_of (v := .bool _) rfl) ?_
          refine dw_pure (i := 2) rfl (by decide +kernel) (pv_move (v := .bool _) rfl) ?_
          refine dw_pureG (i := 3) rfl (by decide +kernel) rfl rfl (pv_move (v := .int .i64 _) rfl) ?_
          refine dw_pureG (i := 4) rfl (by decide +kernel) rfl rfl (pv_of (v := .bool _) rfl) ?_
          refine dw_pureG (i := 5) rfl (by decide +kernel) rfl rfl (pv_move (v := .bool _) rfl) ?_
          refine dw_skip (i := 6) rfl (by decide +kernel) rfl k1 ?_
          refine dw_skip (i := 7) rfl (by decide +kernel) rfl k1 ?_
          refine dw_pureG (i := 8) rfl (by decide +kernel) rfl rfl (pv_pickF rfl k1 (v := .bool _) rfl) ?_
          refine dw_pure (i := 9) rfl (by decide +kernel) (pv_pickF rfl rfl (v := .bool _) rfl) ?_
          refine dw_pure (i := 10) rfl (by decide +kernel) (pv_move (v := .bool _) rfl) ?_
          refine dw_pureG (i := 11) rfl (by decide +kernel) rfl rfl (pv_move (v := .int .i64 _) rfl) ?_
          refine dw_pureG (i := 12) rfl (by decide +kernel) rfl rfl (pv_of (v := .bool _) rfl) ?_
          refine dw_pureG (i := 13) rfl (by decide +kernel) rfl rfl (pv_move (v := .bool _) rfl) ?_
          refine dw_skip (i := 14) rfl (by decide +kernel) rfl k2 ?_
          refine dw_skip (i := 15) rfl (by decide +kernel) rfl k2 ?_
          refine dw_pureG (i := 16) rfl (by decide +kernel) rfl rfl (pv_pickF rfl k2 (v := .bool _) rfl) ?_
          refine dw_pure (i := 17) rfl (by decide +kernel) (pv_pickF rfl rfl (v := .bool _) rfl) ?_
          refine dw_pure (i := 18) rfl (by decide +kernel) (pv_move (v := .bool _) rfl) ?_
          refine dw_pureG (i := 19) rfl (by decide +kernel) rfl rfl (pv_move (v := .int .i64 _) rfl) ?_
          refine dw_pureG (i := 20) rfl (by decide +kernel) rfl rfl (pv_move (v := .slice _ _ _) rfl) ?_
          refine dw_pureG (i := 21) rfl (by decide +kernel) rfl rfl (pv_index rfl rfl rfl rfl (by omega) (by omega)) ?_
          refine dw_loadG (i := 22) rfl (by decide +kernel) rfl rfl ?_
          refine op_load (v := .int .i64 _) rfl rfl (((C0.ext (Ext.trans E_w E4))) 0 _ rfl) ?_
          refine dw_pureG (i := 23) rfl (by decide +kernel) rfl rfl (pv_move (v := .int .i64 _) rfl) ?_
          refine dw_pureG (i := 24) rfl (by decide +kernel) rfl rfl (pv_of (v := .bool _) rfl) ?_
          refine dw_pureG (i := 25) rfl (by decide +kernel) rfl rfl (pv_move (v := .slice _ _ _) rfl) ?_
          refine dw_pureG (i := 26) rfl (by decide +kernel) rfl rfl (pv_move (v := .slice _ _ _) rfl) ?_
          refine dw_pureG (i := 27) rfl (by decide +kernel) rfl rfl (pv_len rfl rfl) ?_
          refine dw_pureG (i := 28) rfl (by decide +kernel) rfl rfl (pv_arith rfl (by omega)) ?_
          refine dw_pureG (i := 29) rfl (by decide +kernel) rfl rfl (pv_index rfl rfl rfl rfl (by omega) (by omega)) ?_
          refine dw_loadG (i := 30) rfl (by decide +kernel) rfl rfl ?_
          refine op_load (v := .int .i64 _) rfl rfl (((C1.ext (Ext.trans E_w E4))) 0 _ rfl) ?_
          refine dw_pureG (i := 31) rfl (by decide +kernel) rfl rfl (pv_move (v := .int .i64 _) rfl) ?_
          refine dw_pureG (i := 32) rfl (by decide +kernel) rfl rfl (pv_of (v := .bool _) rfl) ?_
          refine dw_lastG (i := 33) rfl (by decide +kernel) (by decide +kernel) rfl rfl ?_
          refine op_fn (caps := []) (vs := [.bool _, .bool _]) rfl rfl rfl (lawVerdict_ok _ _ h4) ?_
          rintro _ h5 E5 rfl
          refine dw_pureG (i := 34) rfl (by decide +kernel) rfl rfl (pv_of (v := .bool _) rfl) ?_
          refine dw_pure (i := 35) rfl (by decide +kernel) (pv_pickF rfl rfl (v := .bool _) rfl) ?_
          refine dw_end rfl ?_
          refine xp_condF rfl ((by simp [eV, verdictM])) ?_
          refine xp_skip ?_
          refine xp_region rfl ?_
          refine op_pure (pv_move (v := .int .i64 _) rfl) ?_
          refine op_pure (pv_assign (v := .int .i64 _) rfl) ?_
          refine xp_region rfl ?_
          refine op_pure (pv_move (v := .int .i64 _) rfl) ?_
          refine op_pure (pv_arith rfl (by omega)) ?_
          refine op_pure (pv_assign (v := .int .i64 _) rfl) ?_
          refine ⟨w + 1, ⟨rfl, rfl, trivial⟩, rfl, rfl, (Ext.trans (Ext.trans E_w E4) E5), fun h3 E3 => by omega, by first | omega | (dsimp only; omega), ?_⟩
          repeat (first | exact off_base _ _ _ | refine off_upd (by decide) ?_ | refine off_updL rfl ?_ | refine off_mix rfl ?_)
    · skip
      refine xp_exit ?_
      refine xp_region rfl ?_
      refine op_pure (pv_move (v := .int .i64 _) rfl) ?_
      refine op_pure (pv_arith rfl (by omega)) ?_
      refine op_pure (pv_assign (v := .int .i64 _) rfl) ?_
      refine ⟨j + 1, ⟨rfl, trivial⟩, rfl, rfl, (Ext.trans (Ext.trans E_j E3) E_w), fun h3 E3 => by omega, by first | omega | (dsimp only; omega), ?_⟩
      repeat (first | exact off_base _ _ _ | refine off_upd (by decide) ?_ | refine off_updL rfl ?_ | refine off_mix rfl ?_)
  · skip
    refine xp_exit ?_
    refine xp_seq ?_
    refine xp_region rfl ?_
    refine op_fn (caps := []) (vs := []) rfl rfl rfl (warm_ok h_j) ?_
    rintro _ h9 E9 rfl
    refine op_pure (pv_assign (v := .bool _) rfl) ?_
    refine xp_ret ?_
    exact ⟨rfl, fun V => (Ext.trans (Ext.trans (Ext.trans (Ext.trans E1 E2) E_j) E9) (ext_wl V)), rfl⟩
end Go.Proofs.Ytndfkbapoinmkaa
/- Plain: seasons without an error, and without reports; how much warmer it may be. Conditions: as each theorem states. -/
namespace Go.Wx
open Go Go.HL
structure CheckS (s : Season) : Prop where
  w1 : 1 ≤ s.heats.length
  w6 : s.heats.length ≤ 6
  dl : s.damps.length = s.heats.length
  h : ∀ r ∈ s.heats, checkWeatherM r = 0
  d : ∀ r ∈ s.damps, checkWeatherM r = 0
  j3 : s.joints.length ≤ 3
  j : ∀ j ∈ s.joints, checkJointM j = 0
  r5 : s.reports.length ≤ 5
  r : ∀ r ∈ s.reports, checkSeenM s r = 0
theorem CheckS.ok {s : Season} (c : CheckS s) : checkM s = 0 := by
  have h1 := c.w1; have h2 := c.w6; have h3 := c.dl; have h4 := c.j3; have h5 := c.r5
  unfold checkM
  rw [if_neg (by omega), if_neg (by omega), if_neg (by omega), if_neg (by omega), firstErr_all (fun x hx => (List.mem_append.1 hx).elim (c.h x) (c.d x)), if_neg (by simp), if_neg (by omega), firstErr_all c.j, if_neg (by simp), if_neg (by omega), firstErr_all c.r]
theorem CheckS.of {s : Season} (h : checkM s = 0) : CheckS s := by
  have V := checkM_zero h
  unfold checkM at h
  split at h
  · cases h
  · split at h
    · cases h
    · split at h
      · cases h
      · split at h
        · cases h
        · split at h
          · rename_i h1; exact absurd h h1
          · rename_i h1
            split at h
            · cases h
            · split at h
              · rename_i h2; exact absurd h h2
              · rename_i h2
                split at h
                · cases h
                · have w := firstErr_zero (by simpa using h1)
                  exact ⟨by omega, by omega, by omega, fun r hr => w r (List.mem_append_left _ hr), fun r hr => w r (List.mem_append_right _ hr), by omega, firstErr_zero (by simpa using h2), by omega, firstErr_zero h⟩
theorem checkWeather_iff {r : Rg} : checkWeatherM r = 0 ↔ -50 ≤ r.mn ∧ r.mn ≤ r.mx ∧ r.mx ≤ 100 ∧ r.mx - r.mn ≤ 2 := by
  constructor
  · intro h
    obtain ⟨⟨_, a, _, b⟩, c, d⟩ := checkWeatherM_zero h
    omega
  · exact checkWeather_of
theorem warm_weather {l : List Rg} {z : Nat} {d : Int} (hd : 0 ≤ d ∧ d ≤ 30) (h : ∀ r ∈ l, checkWeatherM r = 0) : ∀ r ∈ warmL l z d, checkWeatherM r = 0 := by
  intro r hr
  obtain ⟨x, hx, rfl | rfl⟩ := mem_warmL hr
  · have := checkWeather_iff.1 (h x hx)
    refine checkWeather_iff.2 ?_
    simp only [capR, upR]
    omega
  · have := checkWeather_iff.1 (h x hx)
    refine checkWeather_iff.2 ?_
    simp only [capR]
    omega
theorem CheckS.warm {s : Season} (c : CheckS s) {n d : Int} (hd : 0 ≤ d ∧ d ≤ 30) : CheckS (warmS s n d) := by
  have hl : (warmL s.heats s.heats.length d).length = s.heats.length := warmL_len _ _ _
  have hl2 : (warmL s.damps s.heats.length d).length = s.damps.length := warmL_len _ _ _
  unfold warmS
  split
  · exact ⟨by show 1 ≤ (warmL _ _ _).length; rw [hl]; exact c.w1, by show (warmL _ _ _).length ≤ 6; rw [hl]; exact c.w6, by show s.damps.length = (warmL _ _ _).length; rw [hl]; exact c.dl, warm_weather hd c.h, c.d, c.j3, c.j, Nat.zero_le _, fun r h => (by cases h)⟩
  · exact ⟨c.w1, c.w6, by show (warmL _ _ _).length = _; rw [hl2]; exact c.dl, c.h, warm_weather hd c.d, c.j3, c.j, Nat.zero_le _, fun r h => (by cases h)⟩
theorem some_sky {s : Season} (c : CheckS s) (n : Int) : ∃ x, x ∈ allSkies s n := by
  have key : ∀ (rs : List Rg), rs.length ≤ 6 → (∀ r ∈ rs, checkWeatherM r = 0) → skyOf (rs.map Rg.mn) ∈ skiesM rs 0 sky0 := by
    intro rs h6 hb
    refine mem_skies rs 0 sky0 (by omega) (fun i r hr => ?_) (fun i hi hc => ?_)
    · have hi := (List.getElem?_eq_some_iff.1 hr).1
      rw [Nat.zero_add, skyOf_at _ _ (by omega), List.getD_eq_getElem?_getD, List.getElem?_map, hr]
      have := checkWeather_iff.1 (hb r (List.mem_of_getElem? hr))
      simp only [Option.map_some, Option.getD_some]
      omega
    · rw [skyOf_at _ _ hi, List.getD_eq_getElem?_getD, List.getElem?_eq_none (by rw [List.length_map]; omega)]
      match i, hi with
      | 0, _ => rfl
      | 1, _ => rfl
      | 2, _ => rfl
      | 3, _ => rfl
      | 4, _ => rfl
      | 5, _ => rfl
      | i + 6, h => omega
  have h1 := c.w6
  have h2 := c.dl
  unfold allSkies weatherM
  split
  · exact ⟨_, key s.heats (by omega) c.h⟩
  · exact ⟨_, key s.damps (by omega) c.d⟩
theorem bare_ok {s : Season} (c : CheckS s) (hr : s.reports = []) (n : Int) (x : Sky) : okM s n x = true := by
  rw [okM_iff]
  intro i j hj hk
  have B := (checkJointM_zero (c.j j (List.mem_of_getElem? hj))).1
  have hm : failM x s.heats.length j.high.mn j.low.mn j.weeks.mn.toNat j.life.mn.toNat ∈ failuresM j x s.heats.length := mem_failuresM.2 ⟨_, _, _, _, ⟨Int.le_refl _, B.h2⟩, ⟨Int.le_refl _, B.l2⟩, ⟨Int.le_refl _, B.w2⟩, ⟨Int.le_refl _, B.a2⟩, rfl⟩
  have hw := failuresM_week hm
  have h6 := c.w6
  unfold surv
  rw [hj]
  simp only [hk, if_true]
  refine List.ne_nil_of_mem (List.mem_filter.2 ⟨hm, ?_⟩)
  rw [toldW_bit s h6 (by rw [hr]; intro r h; cases h) i _ (by omega), hr]
  simpa using hw
theorem may_bare {s : Season} (c : CheckS s) (hr : s.reports = []) : mayM s = true := by
  obtain ⟨x, hx⟩ := some_sky c 1
  obtain ⟨y, hy⟩ := some_sky c 2
  exact mayM_iff.2 ⟨⟨x, mem_skM.2 ⟨hx, bare_ok c hr 1 x⟩⟩, ⟨y, mem_skM.2 ⟨hy, bare_ok c hr 2 y⟩⟩⟩
theorem known_of {s : Season} (c : CheckS s) (m : mayM s = true) {es : List Int} (he : ∀ e ∈ es, e = 0) : knownM s es = 0 := by
  unfold knownM
  rw [c.ok, if_neg (by simp), firstErr_all (f := id) he, if_neg (by simp), m]
  rfl
theorem warmS_reports (s : Season) (n d : Int) : (warmS s n d).reports = [] := by unfold warmS; split <;> rfl
theorem marginM_le (s : Season) (j w : Nat) : marginM s j w ≤ 30 := by
  unfold marginM
  cases h : (List.range 30).find? (tooWarm s j w) with
  | none => simp
  | some k =>
    have := List.mem_of_find?_eq_some h
    rw [List.mem_range] at this
    simp; omega
/-- Up to the margin the joint stays whole, and not with one more. -/
theorem margin_says (s : Season) (j w : Nat) {b : Nat} (h1 : 1 ≤ b) (h2 : b ≤ marginM s j w + 1) (h3 : b ≤ 30) : decide (failedM (warmS s (kindAt s j) (b : Int)) j w = 2) = decide (b ≤ marginM s j w) := by
  obtain ⟨k, rfl⟩ : ∃ k, b = k + 1 := ⟨b - 1, by omega⟩
  have hk : k < 30 := by omega
  have ht : decide (failedM (warmS s (kindAt s j) ((k + 1 : Nat) : Int)) j w = 2) = !tooWarm s j w k := by
    unfold tooWarm
    rw [show ((k + 1 : Nat) : Int) = (k : Int) + 1 from by omega]
    simp
  rw [ht]
  unfold marginM at h2 ⊢
  cases h : (List.range 30).find? (tooWarm s j w) with
  | none =>
    have := List.find?_eq_none.1 h k (by simpa using hk)
    simp only [Option.getD_none]
    rw [decide_eq_true (by omega)]
    simpa using this
  | some m =>
    rw [h] at h2
    simp only [Option.getD_some] at h2 ⊢
    obtain ⟨e1, e2, e3⟩ := List.find?_range_eq_some.1 h
    by_cases hkm : k = m
    · subst hkm
      rw [e1, decide_eq_false (by omega)]
      rfl
    · have := e3 k (by omega)
      rw [decide_eq_true (by omega)]
      exact this
/-- The first k changed. -/
def mapN {α : Type} (f : α → α) (l : List α) (k : Nat) : List α := (l.take k).map f ++ l.drop k
section
variable {α : Type} {f : α → α} {l : List α}
theorem mapN_len (f : α → α) (l : List α) (k : Nat) : (mapN f l k).length = l.length := by simp [mapN]; omega
theorem mapN_zero (f : α → α) (l : List α) : mapN f l 0 = l := by simp [mapN]
theorem mapN_all (f : α → α) (l : List α) : mapN f l l.length = l.map f := by simp [mapN]
theorem mapN_at {k : Nat} (hk : k < l.length) : (mapN f l k)[k]? = some l[k] := by
  unfold mapN
  rw [List.getElem?_append_right (by simp; omega)]
  simp [Nat.min_eq_left (Nat.le_of_lt hk), List.getElem?_eq_getElem hk]
theorem mapN_succ {k : Nat} (hk : k < l.length) : (mapN f l k).set k (f l[k]) = mapN f l (k + 1) := by
  unfold mapN
  rw [List.set_append_right _ _ (by simp; omega), take_snoc hk, List.map_append]
  have : k - (List.map f (List.take k l)).length = 0 := by simp; omega
  rw [this, List.drop_eq_getElem_cons hk, List.set_cons_zero, List.append_assoc]
  rfl
end
theorem raisedN_all (l : List Rg) (d : Int) : raisedN l 0 l.length d = l.map fun r => upR r d := by
  apply List.ext_getElem?
  intro i
  rw [raisedN_get, List.getElem?_map]
  by_cases hi : i < l.length
  · rw [List.getElem?_eq_getElem hi]
    simp only [Option.map_some]
    rw [if_pos ⟨Nat.zero_le _, hi⟩]
  · rw [List.getElem?_eq_none (by omega)]; rfl
theorem warmL_all (l : List Rg) (d : Int) : warmL l l.length d = l.map fun r => capR (upR r d) := by
  unfold warmL
  rw [raisedN_all, List.map_map]
  rfl
end Go.Wx
/- Walks: a season copied, and a warmer one (the reference). Conditions: as each theorem states. -/
namespace Go.Proofs.Ytndfkbapoinmkaa
open Go Go.HL Go.Proofs Go.Wx
set_option maxRecDepth 100000
theorem copied_ok (s : Season) (A0 A1 A2 A3 : Option Addr) (c0 c1 c2 c3 : Nat) (h : AH) (R : SeasonR h A0 A1 A2 A3 s) (h0 : s.heats.length < 2 ^ 20) (h1 : s.damps.length < 2 ^ 20) (h2 : s.joints.length < 2 ^ 20) :
    FnM Try.prog (.func (.func 96) #[] ([] : List Value).toArray) [seasonV A0 A1 A2 A3 c0 c1 c2 c3 s] h [] (fun v h' M' => ∃ a0 a1 a2 : Acc, M' = [a0.p, a1.p, a2.p] ∧ v = .agg #[.slice a0.A a0.n a0.c, .slice a1.A a1.n a1.c, .slice a2.A a2.n a2.c, .slice none 0 0]
      ∧ AccR 51 2 (s.heats.flatMap rgC) a0 ∧ AccR 51 2 (s.damps.flatMap rgC) a1 ∧ AccR 53 9 (s.joints.flatMap jointC) a2) := by
  refine fnM_body rfl rfl Try.func96 rfl Try.ntmps96 rfl ?_
  refine xp_seq ?_
  refine xp_region rfl ?_
  refine op_box (v := .agg #[.slice _ _ _, .slice _ _ _, .slice _ _ _, .slice _ _ _]) (cs := [_, _, _, _]) rfl rfl fun b1 hb1 => ?_
  refine wp_norm [_] rfl ?_
  refine op_alloc (cs := [_, _, _, _]) rfl rfl fun b2 hb2 => ?_
  refine wp_norm [_, _] rfl ?_
  refine xp_seq ?_
  refine xp_dw [false, false, true, true, true] rfl rfl rfl ?_
  refine dw_pure (i := 1) rfl (by decide +kernel) (pv_fieldAddr rfl rfl rfl rfl 0 rfl) ?_
  refine dw_load (i := 2) rfl (by decide +kernel) ?_
  refine op_loadP 0 (v := .slice _ _ _) rfl rfl rfl rfl ?_
  refine dw_pure (i := 5) rfl (by decide +kernel) (pv_fieldAddr rfl rfl rfl rfl 1 rfl) ?_
  refine dw_load (i := 6) rfl (by decide +kernel) ?_
  refine op_loadP 0 (v := .slice _ _ _) rfl rfl rfl rfl ?_
  refine dw_pure (i := 9) rfl (by decide +kernel) (pv_fieldAddr rfl rfl rfl rfl 2 rfl) ?_
  refine dw_load (i := 10) rfl (by decide +kernel) ?_
  refine op_loadP 0 (v := .slice _ _ _) rfl rfl rfl rfl ?_
  refine dw_eff (i := 0) rfl (by decide +kernel) ?_
  refine op_buildSlice (zc := [_, _]) (vs := []) (cs := []) rfl rfl rfl rfl rfl rfl rfl fun b3 hb3 => ?_
  refine ⟨ext_newM hb3 _, ?_⟩
  refine dw_norm [_, _, _] rfl ?_
  refine dw_eff (i := 3) rfl (by decide +kernel) ?_
  refine op_appendR 2 accR_new rfl rfl rfl (fun V => R.heats.2.ext (Ext.trans (Ext.refl _) (ext_wl V))) (flat_len R.heats.1) (flat_plain rgP s.heats) rfl rfl rfl rfl rfl rfl rfl (by omega) rfl (by rw [flat_len R.heats.1, List.length_nil]; omega) fun a0 h1a E1a ha0 => ?_
  refine ⟨ext_wlm E1a _, ?_⟩
  refine dw_norm [_, _, _] rfl ?_
  refine dw_eff (i := 4) rfl (by decide +kernel) ?_
  refine op_buildSlice (zc := [_, _]) (vs := []) (cs := []) rfl rfl rfl rfl rfl rfl rfl fun b7 hb7 => ?_
  refine ⟨ext_newM hb7 _, ?_⟩
  refine dw_norm [_, _, _, _] rfl ?_
  refine dw_eff (i := 7) rfl (by decide +kernel) ?_
  refine op_appendR 3 accR_new rfl rfl rfl (fun V => R.damps.2.ext (Ext.trans E1a (ext_wl V))) (flat_len R.damps.1) (flat_plain rgP s.damps) rfl rfl rfl rfl rfl rfl rfl (by omega) rfl (by rw [flat_len R.damps.1, List.length_nil]; omega) fun a1 h2a E2a ha1 => ?_
  refine ⟨ext_wlm E2a _, ?_⟩
  refine dw_norm [_, _, _, _] rfl ?_
  refine dw_eff (i := 8) rfl (by decide +kernel) ?_
  refine op_buildSlice (zc := [_, _, _, _, _, _, _, _, _]) (vs := []) (cs := []) rfl rfl rfl rfl rfl rfl rfl fun b11 hb11 => ?_
  refine ⟨ext_newM hb11 _, ?_⟩
  refine dw_norm [_, _, _, _, _] rfl ?_
  refine dw_last (i := 11) rfl (by decide +kernel) (by decide +kernel) ?_
  refine op_appendR 4 accR_new rfl rfl rfl (fun V => R.joints.2.ext (Ext.trans (Ext.trans E1a E2a) (ext_wl V))) (flat_len R.joints.1) (flat_plain jointP s.joints) rfl rfl rfl rfl rfl rfl rfl (by omega) rfl (by rw [flat_len R.joints.1, List.length_nil]; omega) fun a2 h3a E3a ha2 => ?_
  refine dw_norm [_, _, _, _, _] rfl ?_
  refine dw_pure (i := 12) rfl (by decide +kernel) (pv_build (zc := [_, _, _, _]) (vs := [(0, .slice _ _ _), (1, .slice _ _ _), (2, .slice _ _ _)]) (cs := [_, _, _, _]) rfl rfl rfl rfl rfl rfl) ?_
  refine dw_last (i := 13) rfl (by decide +kernel) (by decide +kernel) ?_
  refine op_storeP 1 (v := .agg #[.slice _ _ _, .slice _ _ _, .slice _ _ _, .slice _ _ _]) (vs := [_, _, _, _]) (c' := [_, _, _, _]) rfl rfl rfl rfl rfl rfl rfl rfl rfl ?_
  refine dw_norm [_, _, _, _, _] rfl ?_
  refine dw_end rfl ?_
  refine xp_ret ?_
  refine res_list (vs := [_]) Try.results96 ⟨resV_agg 1 rfl rfl rfl rfl rfl (vs := [.slice _ _ _, .slice _ _ _, .slice _ _ _, .slice _ _ _]) rfl, trivial⟩ fun V => ?_
  obtain ⟨h9, E9, e9, V9⟩ := wl_shed [_, _] [_, _, _] V
  exact ⟨h9, _, e9, V9, Ext.trans (Ext.trans (Ext.trans E1a E2a) E3a) E9, a0, a1, a2, rfl, rfl, ha0, ha1, ha2⟩
theorem ranges_ok (k : Int) (A0 A1 A2 A3 : Option Addr) (n0 n1 n2 n3 c0 c1 c2 c3 : Nat) (h : AH) :
    FnT Try.prog 97 #[.agg #[.slice A0 n0 c0, .slice A1 n1 c1, .slice A2 n2 c2, .slice A3 n3 c3], .int .i64 k] h (fun v _ => v = if k = 1 then .slice A0 n0 c0 else .slice A1 n1 c1) := by
  refine call_body Try.func97 rfl Try.ntmps97 rfl ?_
  refine xp_seq ?_
  refine xp_region rfl ?_
  refine op_box (v := .agg #[.slice _ _ _, .slice _ _ _, .slice _ _ _, .slice _ _ _]) (cs := [_, _, _, _]) rfl rfl fun b2 hb2 => ?_
  refine wp_norm [_] rfl ?_
  refine op_pure (pv_assign (v := .slice _ _ _) rfl) ?_
  refine xp_seq ?_
  refine xp_seq ?_
  refine xp_region rfl ?_
  refine op_pure (pv_move (v := .int .i64 _) rfl) ?_
  refine op_pure (pv_of (v := .bool _) rfl) ?_
  refine xp_cond rfl (fun hk => ?_) (fun hk => ?_)
  · skip
    refine xp_seq ?_
    refine xp_region rfl ?_
    refine op_pure (pv_fieldAddr rfl rfl rfl rfl 0 rfl) ?_
    refine op_loadP 0 (v := .slice _ _ _) rfl rfl rfl rfl ?_
    refine op_pure (pv_assign (v := .slice _ _ _) rfl) ?_
    refine xp_ret ?_
    refine res_list (vs := [_]) Try.results97 ⟨resV_tmp rfl rfl, trivial⟩ fun V => ?_
    have : k = 1 := by simpa using hk
    exact ⟨(ext_wl V), by rw [if_pos this]; rfl⟩
  · skip
    refine xp_skip ?_
    refine xp_seq ?_
    refine xp_region rfl ?_
    refine op_pure (pv_fieldAddr rfl rfl rfl rfl 1 rfl) ?_
    refine op_loadP 0 (v := .slice _ _ _) rfl rfl rfl rfl ?_
    refine op_pure (pv_assign (v := .slice _ _ _) rfl) ?_
    refine xp_ret ?_
    refine res_list (vs := [_]) Try.results97 ⟨resV_tmp rfl rfl, trivial⟩ fun V => ?_
    have : ¬ k = 1 := by simpa using hk
    exact ⟨(ext_wl V), by rw [if_neg this]; rfl⟩
set_option maxHeartbeats 4000000 in
theorem Warmer_ok (s : Season) (A0 A1 A2 A3 : Option Addr) (c0 c1 c2 c3 : Nat) (h : AH) (R : SeasonR h A0 A1 A2 A3 s) (h0 : s.heats.length < 2 ^ 19) (hdl : s.damps.length = s.heats.length) (h2 : s.joints.length < 2 ^ 19) (hl0 : 0 < s.heats.length)
    (hHb : ∀ r ∈ s.heats, -2 ^ 40 ≤ r.mn ∧ r.mn ≤ 2 ^ 40 ∧ -2 ^ 40 ≤ r.mx ∧ r.mx ≤ 2 ^ 40) (hDmb : ∀ r ∈ s.damps, -2 ^ 40 ≤ r.mn ∧ r.mn ≤ 2 ^ 40 ∧ -2 ^ 40 ≤ r.mx ∧ r.mx ≤ 2 ^ 40) (k d : Int) (hk : k = 1 ∨ k = 2) (hd : -2 ^ 40 ≤ d ∧ d ≤ 2 ^ 40) :
    FnT Try.prog 34 #[seasonV A0 A1 A2 A3 c0 c1 c2 c3 s, .int .i64 k, .int .i64 d] h (fun v h' => SeasonS h' (warmS s k d) v) := by
  refine call_body Try.func34 rfl Try.ntmps34 rfl ?_
  refine xp_seq ?_
  refine xp_region rfl ?_
  refine op_box (v := .agg #[.slice _ _ _, .slice _ _ _, .slice _ _ _, .slice _ _ _]) (cs := [_, _, _, _]) rfl rfl fun b3 hb3 => ?_
  refine wp_norm [_] rfl ?_
  refine op_alloc (cs := [_, _, _, _]) rfl rfl fun b6 hb6 => ?_
  refine wp_norm [_, _] rfl ?_
  refine xp_seq ?_
  refine xp_region rfl ?_
  refine op_loadPA 0 (vs := [.slice _ _ _, .slice _ _ _, .slice _ _ _, .slice _ _ _]) rfl rfl rfl rfl rfl ?_
  refine op_fnMM [_, _] [] [] rfl rfl rfl (copied_ok s A0 A1 A2 A3 c0 c1 c2 c3 h (R.ext (Ext.refl _)) (by omega) (by omega) (by omega)) ?_
  rintro _ h5 _ E5 ⟨a0, a1, a2, rfl, rfl, ha0, ha1, ha2⟩
  refine wp_norm [_, _, _, _, _] rfl ?_
  obtain ⟨bH, lenH, capH, junkH, hlH, rfl⟩ := AccR.some ha0 (by intro e; have := flat_len (l := s.heats) (m := 2) (enc := rgC) (fun _ _ => rfl); rw [e] at this; simp at this; omega)
  obtain ⟨bDm, lenDm, capDm, junkDm, hlDm, rfl⟩ := AccR.some ha1 (by intro e; have := flat_len (l := s.damps) (m := 2) (enc := rgC) (fun _ _ => rfl); rw [e] at this; simp at this; omega)
  have eH : lenH = s.heats.length := by rw [flat_len (m := 2) (fun _ _ => rfl)] at hlH; omega
  have eDm : lenDm = s.damps.length := by rw [flat_len (m := 2) (fun _ _ => rfl)] at hlDm; omega
  have hJ : a2.n = s.joints.length := by have := AccR.len ha2; rw [flat_len (m := 9) (fun _ _ => rfl)] at this; omega
  subst eH eDm
  dsimp only
  refine op_alloc (cs := [_, _, _, _]) rfl rfl fun b7 hb7 => ?_
  refine wp_norm [_, _, _, _, _, _] rfl ?_
  refine op_storeP 5 (v := .agg #[.slice _ _ _, .slice _ _ _, .slice _ _ _, .slice _ _ _]) (vs := [_, _, _, _]) (c' := [_, _, _, _]) rfl rfl rfl rfl rfl rfl rfl rfl rfl ?_
  refine wp_norm [_, _, _, _, _, _] rfl ?_
  refine xp_seq ?_
  refine xp_region rfl ?_
  refine op_loadPA 5 (vs := [.slice _ _ _, .slice _ _ _, .slice _ _ _, .slice _ _ _]) rfl rfl rfl rfl rfl ?_
  refine op_pure (pv_move (v := .int .i64 _) rfl) ?_
  refine op_fn (caps := []) (vs := [.agg #[.slice _ _ _, .slice _ _ _, .slice _ _ _, .slice _ _ _], .int .i64 _]) rfl rfl rfl (ranges_ok _ _ _ _ _ _ _ _ _ _ _ _ _ h5) ?_
  rintro _ h9 E9 rfl
  rcases hk with rfl | rfl
  · skip
    rw [if_pos rfl]
    refine op_pure (pv_assign (v := .slice _ _ _) rfl) ?_
    refine xp_seq ?_
    refine xp_seq ?_
    refine xp_region rfl ?_
    refine op_pure (pv_assign (v := .int .i64 _) rfl) ?_
    refine xp_block ?_
    refine xp_loopL [9, 15, 16, 17, 18, 19, 20, 21, 22, 23, 24, 25, 26, 27, 28, 29, 30, 31, 32, 33, 34, 35, 36, 37, 38, 39, 40] 6 (α := Nat) (fun w => [(9, .int .i64 w)]) (fun w L => L.set 2 (some (bH, .cells ((mapN (fun r => capR (upR r d)) s.heats w).flatMap rgC ++ junkH).toArray 51 (0, 0)))) (fun w h_w => w ≤ s.heats.length) (fun w => s.heats.length - w) (0) ⟨rfl, trivial⟩ (by rw [mapN_zero]; rfl) (Nat.zero_le _) ?_
    rintro w T1 h_w E_w J_w
    refine goes_norm [_, _, _, _, _, _] rfl ?_
    refine xp_seq ?_
    refine xp_seq ?_
    refine xp_region rfl ?_
    refine op_pure (pv_move (v := .int .i64 _) rfl) ?_
    refine op_pure (pv_move (v := .slice _ _ _) rfl) ?_
    refine op_pure (pv_len rfl rfl) ?_
    refine op_pure (pv_of (v := .bool _) rfl) ?_
    refine xp_cond rfl (fun ht => ?_) (fun ht => ?_)
    · skip
      have hwl : w < s.heats.length := ltI ht
      have hrk := hHb _ (List.getElem_mem hwl)
      have hkr : w < (mapN (fun r => capR (upR r d)) s.heats w).length := by rw [mapN_len]; exact hwl
      have hat := mapN_at (f := fun r => capR (upR r d)) hwl
      have hoff : 0 + (w : Int).toNat * 2 = w * 2 := by omega
      refine xp_skip ?_
      refine xp_seq ?_
      refine xp_block ?_
      refine xp_dw [] rfl rfl rfl ?_
      refine dw_pure (i := 0) rfl (by decide +kernel) (pv_move (v := .slice _ _ _) rfl) ?_
      refine dw_pure (i := 1) rfl (by decide +kernel) (pv_move (v := .int .i64 _) rfl) ?_
      refine dw_pure (i := 2) rfl (by decide +kernel) (pv_move (v := .slice _ _ _) rfl) ?_
      refine dw_pure (i := 3) rfl (by decide +kernel) (pv_move (v := .int .i64 _) rfl) ?_
      refine dw_pure (i := 4) rfl (by decide +kernel) (pv_index rfl rfl rfl rfl (by omega) (by omega)) ?_
      refine dw_pure (i := 5) rfl (by decide +kernel) (pv_fieldAddr rfl rfl rfl rfl _ rfl) ?_
      refine dw_load (i := 6) rfl (by decide +kernel) ?_
      refine op_loadP 2 (v := .int .i64 s.heats[w].mn) (off := 0 + (w : Int).toNat * 2) rfl rfl rfl (by rw [hoff]; simpa using rg_mn (junk := junkH) hat) ?_
      refine dw_pure (i := 7) rfl (by decide +kernel) (pv_move (v := .int .i64 _) rfl) ?_
      refine dw_pure (i := 8) rfl (by decide +kernel) (pv_arith rfl (by omega)) ?_
      refine dw_pure (i := 9) rfl (by decide +kernel) (pv_min rfl rfl) ?_
      refine dw_pure (i := 10) rfl (by decide +kernel) (pv_move (v := .slice _ _ _) rfl) ?_
      refine dw_pure (i := 11) rfl (by decide +kernel) (pv_move (v := .int .i64 _) rfl) ?_
      refine dw_pure (i := 12) rfl (by decide +kernel) (pv_index rfl rfl rfl rfl (by omega) (by omega)) ?_
      refine dw_pure (i := 13) rfl (by decide +kernel) (pv_fieldAddr rfl rfl rfl rfl _ rfl) ?_
      refine dw_load (i := 14) rfl (by decide +kernel) ?_
      refine op_loadP 2 (v := .int .i64 s.heats[w].mx) (off := 0 + (w : Int).toNat * 2 + 1) rfl rfl rfl (by rw [hoff]; simpa using rg_mx (junk := junkH) hat) ?_
      refine dw_pure (i := 15) rfl (by decide +kernel) (pv_move (v := .int .i64 _) rfl) ?_
      refine dw_pure (i := 16) rfl (by decide +kernel) (pv_arith rfl (by omega)) ?_
      refine dw_pure (i := 17) rfl (by decide +kernel) (pv_min rfl rfl) ?_
      refine dw_pure (i := 18) rfl (by decide +kernel) (pv_build (zc := [_, _]) (vs := [(0, .int .i64 _), (1, .int .i64 _)]) (cs := [_, _]) rfl rfl rfl rfl rfl rfl) ?_
      refine dw_pure (i := 19) rfl (by decide +kernel) (pv_index rfl rfl rfl rfl (by omega) (by omega)) ?_
      refine dw_last (i := 20) rfl (by decide +kernel) (by decide +kernel) ?_
      refine op_storeP 2 (v := .agg #[.int .i64 _, .int .i64 _]) (vs := [.int .i64 (min (s.heats[w].mn + d) 100), .int .i64 (min (s.heats[w].mx + d) 100)]) (off := 0 + (w : Int).toNat * 2) (c' := (mapN (fun r => capR (upR r d)) s.heats (w + 1)).flatMap rgC ++ junkH) rfl rfl rfl rfl rfl rfl (Nat.ble_eq_true_of_le (by show 0 + (w : Int).toNat * 2 + 2 ≤ _; rw [List.length_append, flat_len (m := 2) (fun _ _ => rfl), mapN_len]; omega)) rfl (by rw [hoff, rg_wr hkr, ← mapN_succ hwl]; rfl) ?_
      refine dw_norm [_, _, _, _, _, _] rfl ?_
      refine dw_end rfl ?_
      refine xp_region rfl ?_
      refine op_pure (pv_move (v := .int .i64 _) rfl) ?_
      refine op_pure (pv_arith rfl (by omega)) ?_
      refine op_pure (pv_assign (v := .int .i64 _) rfl) ?_
      refine ⟨w + 1, ⟨rfl, trivial⟩, rfl, rfl, E_w, fun h3 E3 => by omega, by first | omega | (dsimp only; omega), ?_⟩
      repeat (first | exact off_base _ _ _ | refine off_upd (by decide) ?_ | refine off_updL rfl ?_ | refine off_mix rfl ?_)
    · skip
      have hwe : w = s.heats.length := by have := geI ht; omega
      subst hwe
      refine xp_exit ?_
      refine xp_seq ?_
      refine xp_region rfl ?_
      refine op_loadPA 5 (vs := [.slice _ _ _, .slice _ _ _, .slice _ _ _, .slice _ _ _]) rfl rfl rfl rfl rfl ?_
      refine op_storeP 1 (v := .agg #[.slice _ _ _, .slice _ _ _, .slice _ _ _, .slice _ _ _]) (vs := [_, _, _, _]) (c' := [_, _, _, _]) rfl rfl rfl rfl rfl rfl rfl rfl rfl ?_
      refine wp_norm [_, _, _, _, _, _] rfl ?_
      refine goes_pub 2 rfl ?_
      intro h6 E6 p6
      refine goes_pub 3 rfl ?_
      intro h7 E7 p7
      refine goes_pubO 4 rfl ?_
      intro h8 E8 p8
      refine goes_norm [_, _, _, _, _, _] rfl ?_
      rw [mapN_all] at p6
      refine xp_ret ?_
      refine res_list (vs := [_]) Try.results34 ⟨resV_agg 1 rfl rfl rfl rfl rfl (vs := [.slice _ _ _, .slice _ _ _, .slice _ _ _, .slice _ _ _]) rfl, trivial⟩ fun V => ?_
      refine ⟨(Ext.trans (Ext.trans (Ext.trans (Ext.trans (Ext.trans (Ext.trans E5 E9) E_w) E6) E7) E8) (ext_wl V)), some ⟨bH, 0, none⟩, some ⟨bDm, 0, none⟩, a2.A, none, capH, capDm, a2.c, 0, ?_, ?_⟩
      · unfold seasonV
        rw [warmS_1, hJ]
        rw [warmL_len]
        rfl
      · rw [warmS_1]
        exact ⟨by rw [warmL_all]; exact (rg_row p6).ext (Ext.trans (Ext.trans E7 E8) (ext_wl V)), (rg_row p7).ext (Ext.trans E8 (ext_wl V)), ⟨fun _ _ => rfl, (AccR.rd ha2 p8).ext (ext_wl V)⟩, ⟨fun _ h => (by cases h), Rd.nil _ _⟩⟩
  · skip
    rw [if_neg (by decide)]
    refine op_pure (pv_assign (v := .slice _ _ _) rfl) ?_
    refine xp_seq ?_
    refine xp_seq ?_
    refine xp_region rfl ?_
    refine op_pure (pv_assign (v := .int .i64 _) rfl) ?_
    refine xp_block ?_
    refine xp_loopL [9, 15, 16, 17, 18, 19, 20, 21, 22, 23, 24, 25, 26, 27, 28, 29, 30, 31, 32, 33, 34, 35, 36, 37, 38, 39, 40] 6 (α := Nat) (fun w => [(9, .int .i64 w)]) (fun w L => L.set 3 (some (bDm, .cells ((mapN (fun r => capR (upR r d)) s.damps w).flatMap rgC ++ junkDm).toArray 51 (0, 0)))) (fun w h_w => w ≤ s.damps.length) (fun w => s.damps.length - w) (0) ⟨rfl, trivial⟩ (by rw [mapN_zero]; rfl) (Nat.zero_le _) ?_
    rintro w T2 h_w E_w J_w
    refine goes_norm [_, _, _, _, _, _] rfl ?_
    refine xp_seq ?_
    refine xp_seq ?_
    refine xp_region rfl ?_
    refine op_pure (pv_move (v := .int .i64 _) rfl) ?_
    refine op_pure (pv_move (v := .slice _ _ _) rfl) ?_
    refine op_pure (pv_len rfl rfl) ?_
    refine op_pure (pv_of (v := .bool _) rfl) ?_
    refine xp_cond rfl (fun ht => ?_) (fun ht => ?_)
    · skip
      have hwl : w < s.damps.length := ltI ht
      have hrk := hDmb _ (List.getElem_mem hwl)
      have hkr : w < (mapN (fun r => capR (upR r d)) s.damps w).length := by rw [mapN_len]; exact hwl
      have hat := mapN_at (f := fun r => capR (upR r d)) hwl
      have hoff : 0 + (w : Int).toNat * 2 = w * 2 := by omega
      refine xp_skip ?_
      refine xp_seq ?_
      refine xp_block ?_
      refine xp_dw [] rfl rfl rfl ?_
      refine dw_pure (i := 0) rfl (by decide +kernel) (pv_move (v := .slice _ _ _) rfl) ?_
      refine dw_pure (i := 1) rfl (by decide +kernel) (pv_move (v := .int .i64 _) rfl) ?_
      refine dw_pure (i := 2) rfl (by decide +kernel) (pv_move (v := .slice _ _ _) rfl) ?_
      refine dw_pure (i := 3) rfl (by decide +kernel) (pv_move (v := .int .i64 _) rfl) ?_
      refine dw_pure (i := 4) rfl (by decide +kernel) (pv_index rfl rfl rfl rfl (by omega) (by omega)) ?_
      refine dw_pure (i := 5) rfl (by decide +kernel) (pv_fieldAddr rfl rfl rfl rfl _ rfl) ?_
      refine dw_load (i := 6) rfl (by decide +kernel) ?_
      refine op_loadP 3 (v := .int .i64 s.damps[w].mn) (off := 0 + (w : Int).toNat * 2) rfl rfl rfl (by rw [hoff]; simpa using rg_mn (junk := junkDm) hat) ?_
      refine dw_pure (i := 7) rfl (by decide +kernel) (pv_move (v := .int .i64 _) rfl) ?_
      refine dw_pure (i := 8) rfl (by decide +kernel) (pv_arith rfl (by omega)) ?_
      refine dw_pure (i := 9) rfl (by decide +kernel) (pv_min rfl rfl) ?_
      refine dw_pure (i := 10) rfl (by decide +kernel) (pv_move (v := .slice _ _ _) rfl) ?_
      refine dw_pure (i := 11) rfl (by decide +kernel) (pv_move (v := .int .i64 _) rfl) ?_
      refine dw_pure (i := 12) rfl (by decide +kernel) (pv_index rfl rfl rfl rfl (by omega) (by omega)) ?_
      refine dw_pure (i := 13) rfl (by decide +kernel) (pv_fieldAddr rfl rfl rfl rfl _ rfl) ?_
      refine dw_load (i := 14) rfl (by decide +kernel) ?_
      refine op_loadP 3 (v := .int .i64 s.damps[w].mx) (off := 0 + (w : Int).toNat * 2 + 1) rfl rfl rfl (by rw [hoff]; simpa using rg_mx (junk := junkDm) hat) ?_
      refine dw_pure (i := 15) rfl (by decide +kernel) (pv_move (v := .int .i64 _) rfl) ?_
      refine dw_pure (i := 16) rfl (by decide +kernel) (pv_arith rfl (by omega)) ?_
      refine dw_pure (i := 17) rfl (by decide +kernel) (pv_min rfl rfl) ?_
      refine dw_pure (i := 18) rfl (by decide +kernel) (pv_build (zc := [_, _]) (vs := [(0, .int .i64 _), (1, .int .i64 _)]) (cs := [_, _]) rfl rfl rfl rfl rfl rfl) ?_
      refine dw_pure (i := 19) rfl (by decide +kernel) (pv_index rfl rfl rfl rfl (by omega) (by omega)) ?_
      refine dw_last (i := 20) rfl (by decide +kernel) (by decide +kernel) ?_
      refine op_storeP 3 (v := .agg #[.int .i64 _, .int .i64 _]) (vs := [.int .i64 (min (s.damps[w].mn + d) 100), .int .i64 (min (s.damps[w].mx + d) 100)]) (off := 0 + (w : Int).toNat * 2) (c' := (mapN (fun r => capR (upR r d)) s.damps (w + 1)).flatMap rgC ++ junkDm) rfl rfl rfl rfl rfl rfl (Nat.ble_eq_true_of_le (by show 0 + (w : Int).toNat * 2 + 2 ≤ _; rw [List.length_append, flat_len (m := 2) (fun _ _ => rfl), mapN_len]; omega)) rfl (by rw [hoff, rg_wr hkr, ← mapN_succ hwl]; rfl) ?_
      refine dw_norm [_, _, _, _, _, _] rfl ?_
      refine dw_end rfl ?_
      refine xp_region rfl ?_
      refine op_pure (pv_move (v := .int .i64 _) rfl) ?_
      refine op_pure (pv_arith rfl (by omega)) ?_
      refine op_pure (pv_assign (v := .int .i64 _) rfl) ?_
      refine ⟨w + 1, ⟨rfl, trivial⟩, rfl, rfl, E_w, fun h3 E3 => by omega, by first | omega | (dsimp only; omega), ?_⟩
      repeat (first | exact off_base _ _ _ | refine off_upd (by decide) ?_ | refine off_updL rfl ?_ | refine off_mix rfl ?_)
    · skip
      have hwe : w = s.damps.length := by have := geI ht; omega
      subst hwe
      refine xp_exit ?_
      refine xp_seq ?_
      refine xp_region rfl ?_
      refine op_loadPA 5 (vs := [.slice _ _ _, .slice _ _ _, .slice _ _ _, .slice _ _ _]) rfl rfl rfl rfl rfl ?_
      refine op_storeP 1 (v := .agg #[.slice _ _ _, .slice _ _ _, .slice _ _ _, .slice _ _ _]) (vs := [_, _, _, _]) (c' := [_, _, _, _]) rfl rfl rfl rfl rfl rfl rfl rfl rfl ?_
      refine wp_norm [_, _, _, _, _, _] rfl ?_
      refine goes_pub 2 rfl ?_
      intro h6 E6 p6
      refine goes_pub 3 rfl ?_
      intro h7 E7 p7
      refine goes_pubO 4 rfl ?_
      intro h8 E8 p8
      refine goes_norm [_, _, _, _, _, _] rfl ?_
      rw [mapN_all] at p7
      refine xp_ret ?_
      refine res_list (vs := [_]) Try.results34 ⟨resV_agg 1 rfl rfl rfl rfl rfl (vs := [.slice _ _ _, .slice _ _ _, .slice _ _ _, .slice _ _ _]) rfl, trivial⟩ fun V => ?_
      refine ⟨(Ext.trans (Ext.trans (Ext.trans (Ext.trans (Ext.trans (Ext.trans E5 E9) E_w) E6) E7) E8) (ext_wl V)), some ⟨bH, 0, none⟩, some ⟨bDm, 0, none⟩, a2.A, none, capH, capDm, a2.c, 0, ?_, ?_⟩
      · unfold seasonV
        rw [warmS_2, hJ]
        rw [warmL_len]
        rfl
      · rw [warmS_2]
        exact ⟨(rg_row p6).ext (Ext.trans (Ext.trans E7 E8) (ext_wl V)), by rw [show warmL s.damps s.heats.length d = s.damps.map fun r => capR (upR r d) from (congrArg (fun z => warmL s.damps z d) hdl.symm).trans (warmL_all _ _)]; exact (rg_row p7).ext (Ext.trans E8 (ext_wl V)), ⟨fun _ _ => rfl, (AccR.rd ha2 p8).ext (ext_wl V)⟩, ⟨fun _ h => (by cases h), Rd.nil _ _⟩⟩
end Go.Proofs.Ytndfkbapoinmkaa
/- Walks: the law on the margin. Conditions: as each theorem states. -/
namespace Go.Proofs.Ytndfkbapoinmkaa
open Go Go.HL Go.Proofs Go.Wx Go.RowKit
set_option maxRecDepth 100000
theorem SeasonT.checkS {a b c : Nat} {s : Season} {ht dt fs : List Int} (T : SeasonT a b c s ht dt fs) (ha : a ≤ 6) (hb : b ≤ 3) (hc : c ≤ 5) : CheckS s := CheckS.of (check_T T ha hb hc)
theorem margin_none {s : Season} (c : CheckS s) (h : s.joints.length = 0) : marginE s 0 0 = 3 ∧ marginV s 0 0 = 0 := by
  have e : failedE s 0 0 = 3 := by
    have j : isJointM s 0 = 3 := by unfold isJointM inM; rw [h]; rfl
    unfold failedE knownM
    rw [c.ok, j, if_neg (by simp)]
    rfl
  have e2 : marginE s 0 0 = 3 := by unfold marginE; rw [e]; rfl
  exact ⟨e2, by unfold marginV; rw [e2]; rfl⟩
theorem failed_of {s : Season} (c : CheckS s) (m : mayM s = true) {j w : Nat} (hj : j < s.joints.length) (hw : w < s.heats.length) : failedE s j w = 0 ∧ failedV s j w = failedM s j w := by
  have e : failedE s j w = 0 := known_of c m (by
    intro x hx
    rcases List.mem_cons.1 hx with rfl | hx
    · unfold isJointM inM; rw [if_pos (by simp; omega)]
    · rw [List.mem_singleton.1 hx]; unfold isWeekM inM; rw [if_pos (by simp; omega)])
  exact ⟨e, by unfold failedV; rw [if_pos e]; rfl⟩
theorem small_of {s : Season} (c : CheckS s) : Small s := by
  have := c.w6; have := c.dl; have := c.j3; have := c.r5
  exact ⟨by omega, by omega, by omega, by omega⟩
set_option maxHeartbeats 4000000 in
theorem margin_calls (w : World) (l : List Int) (hl : l.length < 2 ^ 63) (A : Option Addr) (c : Nat) (R : Row (absH w.heap) 1 intC A l) : Calls Try.prog 5 #[.slice A l.length c] w (fun e w' => e = .returned (.bool true) ∧ Below w.heap.size w w') := by
  refine calls_body Try.func5 rfl Try.ntmps5 rfl Try.results5 rfl fun h hh => ?_
  rw [← hh] at R
  refine xp_seq ?_
  refine xp_region rfl ?_
  refine op_pure (pv_assign (v := .bool _) rfl) ?_
  refine xp_seq ?_
  refine xp_region rfl ?_
  refine op_pure (pv_move (v := .slice _ _ _) rfl) ?_
  refine op_fnMM [] [] [] rfl rfl rfl ((NewPot_ok l hl A c h R)) ?_
  rintro _ h1 _ E1 ⟨b, x, rfl, rfl⟩
  refine wp_norm [_] rfl ?_
  refine op_pure (pv_assign (v := .pointer _) rfl) ?_
  refine xp_seq ?_
  refine xp_region rfl ?_
  refine op_pure (pv_move (v := .pointer _) rfl) ?_
  refine op_fnMM [] [_] [] (vs := _) rfl rfl rfl ((SeasonOf_ok b x 3 2 0 (by omega) (by omega) (by omega) (by omega) h1)) ?_
  rintro _ h2 _ E2 ⟨x2, s, ht, dt, fs, _, _, rfl, rfl, ⟨A0, A1, A2, A3, c0, c1, c2, c3, rfl, RS⟩, T, HA, hc, DA, dc, FA, fc, rfl, R1, R2, R3⟩
  refine wp_norm [_] rfl ?_
  have C : CheckS s := SeasonT.checkS T (by omega) (by omega) (by omega)
  have Sm : Small s := small_of C
  have hbare : s.reports = [] := List.eq_nil_of_length_eq_zero (by have := T.rl; omega)
  have hmay : mayM s = true := may_bare C hbare
  have h6 := C.w6
  have h1w := C.w1
  have hdl := C.dl
  have j3 := C.j3
  refine op_pure (pv_move (v := .tuple #[.agg #[.slice _ _ _, .slice _ _ _, .slice _ _ _, .slice _ _ _], .agg #[.slice _ _ _, .slice _ _ _, .slice _ _ _]]) rfl) ?_
  refine op_pure (pv_of (v := .agg #[.slice _ _ _, .slice _ _ _, .slice _ _ _, .slice _ _ _]) rfl) ?_
  refine op_pure (pv_of (v := .agg #[.slice _ _ _, .slice _ _ _, .slice _ _ _]) rfl) ?_
  refine op_alloc (cs := [_, _, _, _]) rfl rfl fun b4 hb4 => ?_
  refine wp_norm [_, _] rfl ?_
  refine op_alloc (cs := [_, _, _]) rfl rfl fun b5 hb5 => ?_
  refine wp_norm [_, _, _] rfl ?_
  refine op_storeP 1 (v := .agg #[.slice _ _ _, .slice _ _ _, .slice _ _ _, .slice _ _ _]) (vs := [_, _, _, _]) (c' := [_, _, _, _]) rfl rfl rfl rfl rfl rfl rfl rfl rfl ?_
  refine wp_norm [_, _, _] rfl ?_
  refine op_storeP 2 (v := .agg #[.slice _ _ _, .slice _ _ _, .slice _ _ _]) (vs := [_, _, _]) (c' := [_, _, _]) rfl rfl rfl rfl rfl rfl rfl rfl rfl ?_
  refine wp_norm [_, _, _] rfl ?_
  refine xp_seq ?_
  refine xp_seq ?_
  refine xp_region rfl ?_
  refine op_pure (pv_fieldAddr rfl rfl rfl rfl 2 rfl) ?_
  refine op_loadP 1 (v := .slice _ _ _) rfl rfl rfl rfl ?_
  refine op_pure (pv_len rfl rfl) ?_
  refine op_pure (pv_of (v := .bool _) rfl) ?_
  refine xp_cond rfl (fun hj0 => ?_) (fun hj0 => ?_)
  · skip
    have hj0' : s.joints.length = 0 := by have := of_decide_eq_true hj0; omega
    obtain ⟨me, mv⟩ := margin_none C hj0'
    refine xp_seq ?_
    refine xp_region rfl ?_
    refine op_loadPA 1 (vs := [.slice _ _ _, .slice _ _ _, .slice _ _ _, .slice _ _ _]) rfl rfl rfl rfl rfl ?_
    have HM := Margin_ok s Sm 0 0 A0 A1 A2 A3 c0 c1 c2 c3 h2 (RS.ext (Ext.refl _))
    rw [me, mv] at HM
    refine op_fn (caps := []) (vs := [.agg #[.slice _ _ _, .slice _ _ _, .slice _ _ _, .slice _ _ _], .int .i64 _, .int .i64 _]) rfl rfl rfl (HM) ?_
    rintro _ h3 E3 rfl
    refine op_pure (pv_move (v := .tuple #[.int .i64 _, .int .i64 _]) rfl) ?_
    refine op_pure (pv_of (v := .int .i64 _) rfl) ?_
    refine op_pure (pv_of (v := .int .i64 _) rfl) ?_
    refine op_pure (pv_assign (v := .int .i64 _) rfl) ?_
    refine op_pure (pv_assign (v := .int .i64 _) rfl) ?_
    refine xp_seq ?_
    refine xp_region rfl ?_
    refine op_pure (pv_move (v := .int .i64 _) rfl) ?_
    refine op_pure (pv_of (v := .bool _) rfl) ?_
    refine op_pure (pv_move (v := .bool _) rfl) ?_
    refine guard_yes rfl rfl ?_
    refine op_fn (caps := []) (vs := []) rfl rfl rfl (warm_ok h3) ?_
    rintro _ h9 E9 rfl
    refine op_pure (pv_pickT rfl rfl (v := .bool _) rfl) ?_
    refine op_pure (pv_assign (v := .bool _) rfl) ?_
    refine xp_ret ?_
    exact ⟨rfl, fun V => (Ext.trans (Ext.trans (Ext.trans (Ext.trans E1 E2) E3) E9) (ext_wl V)), rfl⟩
  · skip
    have hj1 : 0 < s.joints.length := by have := of_decide_eq_false hj0; omega
    refine xp_skip ?_
    refine xp_seq ?_
    refine xp_dw [true, false, false] rfl rfl rfl ?_
    refine dw_pure (i := 0) rfl (by decide +kernel) (pv_move (v := .pointer _) rfl) ?_
    refine dw_pure (i := 1) rfl (by decide +kernel) (pv_fieldAddr rfl rfl rfl rfl 2 rfl) ?_
    refine dw_load (i := 2) rfl (by decide +kernel) ?_
    refine op_loadP 1 (v := .slice _ _ _) rfl rfl rfl rfl ?_
    refine dw_pure (i := 3) rfl (by decide +kernel) (pv_len rfl rfl) ?_
    refine dw_pure (i := 4) rfl (by decide +kernel) (pv_arith rfl (by omega)) ?_
    refine dw_pure (i := 6) rfl (by decide +kernel) (pv_move (v := .pointer _) rfl) ?_
    refine dw_pure (i := 7) rfl (by decide +kernel) (pv_fieldAddr rfl rfl rfl rfl 0 rfl) ?_
    refine dw_load (i := 8) rfl (by decide +kernel) ?_
    refine op_loadP 1 (v := .slice _ _ _) rfl rfl rfl rfl ?_
    refine dw_pure (i := 9) rfl (by decide +kernel) (pv_len rfl rfl) ?_
    refine dw_pure (i := 10) rfl (by decide +kernel) (pv_arith rfl (by omega)) ?_
    refine dw_eff (i := 5) rfl (by decide +kernel) ?_
    refine op_fnMM [] [_] [_, _] (vs := [.pointer _, .int .i64 _]) rfl rfl rfl ((Upto_ok b x2 (s.joints.length - 1) (by omega) h2)) ?_
    rintro _ h3 _ E3 ⟨x3, k, rfl, rfl, k1, k2⟩
    refine ⟨ext_wlm E3 _, ?_⟩
    refine dw_norm [_, _, _] rfl ?_
    obtain ⟨q, rfl⟩ : ∃ q : Nat, k = q := ⟨k.toNat, by omega⟩
    have hq : q < s.joints.length := by omega
    refine dw_last (i := 11) rfl (by decide +kernel) (by decide +kernel) ?_
    refine op_fnMM [] [_] [_, _] (vs := [.pointer _, .int .i64 _]) rfl rfl rfl ((Upto_ok b x3 (s.heats.length - 1) (by omega) h3)) ?_
    rintro _ h4 _ E4 ⟨x4, k', rfl, rfl, k1', k2'⟩
    refine dw_norm [_, _, _] rfl ?_
    obtain ⟨u, rfl⟩ : ∃ u : Nat, k' = u := ⟨k'.toNat, by omega⟩
    have hu : u < s.heats.length := by omega
    have HB : ∀ r ∈ s.heats, -2 ^ 40 ≤ r.mn ∧ r.mn ≤ 2 ^ 40 ∧ -2 ^ 40 ≤ r.mx ∧ r.mx ≤ 2 ^ 40 := fun r hr => by have := checkWeather_iff.1 (C.h r hr); omega
    have DB : ∀ r ∈ s.damps, -2 ^ 40 ≤ r.mn ∧ r.mn ≤ 2 ^ 40 ∧ -2 ^ 40 ≤ r.mx ∧ r.mx ≤ 2 ^ 40 := fun r hr => by have := checkWeather_iff.1 (C.d r hr); omega
    have kinds : ∀ j ∈ s.joints, j.kind = 1 ∨ j.kind = 2 := fun j hj => (checkJointM_zero (C.j j hj)).2
    obtain ⟨fe, fv⟩ := failed_of C hmay hq hu
    obtain ⟨v, hv⟩ : ∃ v, failedM s q u = v := ⟨_, rfl⟩
    rw [hv] at fv
    have HD : ∀ h, SeasonR h A0 A1 A2 A3 s → _ := fun h R => Failed_ok s Sm q u A0 A1 A2 A3 c0 c1 c2 c3 h R
    rw [fe, fv] at HD
    by_cases hv2 : v = 2
    · skip
      subst hv2
      have me : marginE s q u = 0 := by unfold marginE; rw [fe, fv]; rfl
      have mv : marginV s q u = marginM s q u := by unfold marginV; rw [me]; rfl
      obtain ⟨n, hn⟩ : ∃ n, marginM s q u = n := ⟨_, rfl⟩
      have hn30 := marginM_le s q u
      rw [hn] at mv hn30
      refine dw_pure (i := 12) rfl (by decide +kernel) (pv_assign (v := .int .i64 _) rfl) ?_
      refine dw_pure (i := 13) rfl (by decide +kernel) (pv_assign (v := .int .i64 _) rfl) ?_
      refine dw_end rfl ?_
      refine xp_seq ?_
      refine xp_region rfl ?_
      refine op_loadPA 1 (vs := [.slice _ _ _, .slice _ _ _, .slice _ _ _, .slice _ _ _]) rfl rfl rfl rfl rfl ?_
      refine op_pure (pv_move (v := .int .i64 _) rfl) ?_
      refine op_pure (pv_move (v := .int .i64 _) rfl) ?_
      have HM := Margin_ok s Sm q u A0 A1 A2 A3 c0 c1 c2 c3 h4 (RS.ext (Ext.trans E3 E4))
      rw [me, mv] at HM
      refine op_fn (caps := []) (vs := [.agg #[.slice _ _ _, .slice _ _ _, .slice _ _ _, .slice _ _ _], .int .i64 _, .int .i64 _]) rfl rfl rfl (HM) ?_
      rintro _ h5 E5 rfl
      refine op_pure (pv_move (v := .tuple #[.int .i64 _, .int .i64 _]) rfl) ?_
      refine op_pure (pv_of (v := .int .i64 _) rfl) ?_
      refine op_pure (pv_of (v := .int .i64 _) rfl) ?_
      refine op_pure (pv_assign (v := .int .i64 _) rfl) ?_
      refine op_pure (pv_assign (v := .int .i64 _) rfl) ?_
      refine xp_seq ?_
      refine xp_region rfl ?_
      refine op_loadPA 1 (vs := [.slice _ _ _, .slice _ _ _, .slice _ _ _, .slice _ _ _]) rfl rfl rfl rfl rfl ?_
      refine op_pure (pv_move (v := .int .i64 _) rfl) ?_
      refine op_pure (pv_move (v := .int .i64 _) rfl) ?_
      refine op_fn (caps := []) (vs := [.agg #[.slice _ _ _, .slice _ _ _, .slice _ _ _, .slice _ _ _], .int .i64 _, .int .i64 _]) rfl rfl rfl (HD h5 (RS.ext (Ext.trans (Ext.trans E3 E4) E5))) ?_
      rintro _ h6 E6 rfl
      refine op_pure (pv_move (v := .tuple #[.int .i64 _, .int .i64 _]) rfl) ?_
      refine op_pure (pv_of (v := .int .i64 _) rfl) ?_
      refine op_pure (pv_of (v := .int .i64 _) rfl) ?_
      refine op_pure (pv_assign (v := .int .i64 _) rfl) ?_
      refine op_pure (pv_assign (v := .int .i64 _) rfl) ?_
      refine xp_seq ?_
      refine xp_seq ?_
      refine xp_region rfl ?_
      refine op_pure (pv_move (v := .int .i64 _) rfl) ?_
      refine op_pure (pv_of (v := .bool _) rfl) ?_
      refine op_pure (pv_move (v := .bool _) rfl) ?_
      refine guard_yes rfl rfl ?_
      refine op_pure (pv_move (v := .int .i64 _) rfl) ?_
      refine guard_yes rfl rfl ?_
      refine op_pure (pv_of (v := .bool _) rfl) ?_
      refine guard_yes rfl rfl ?_
      refine op_pure (pv_move (v := .int .i64 _) rfl) ?_
      refine guard_yes rfl rfl ?_
      refine op_pure (pv_of (v := .bool _) rfl) ?_
      refine guard_yes rfl rfl ?_
      refine op_pure (pv_of (v := .bool _) rfl) ?_
      refine op_pure (pv_pickF rfl rfl (v := .bool _) rfl) ?_
      refine op_pure (pv_move (v := .bool _) rfl) ?_
      refine guard_yes rfl rfl ?_
      refine op_pure (pv_move (v := .int .i64 _) rfl) ?_
      refine guard_yes rfl rfl ?_
      refine op_pure (pv_of (v := .bool _) rfl) ?_
      refine guard_yes rfl rfl ?_
      refine op_pure (pv_move (v := .bool _) rfl) ?_
      refine guard_no rfl rfl ?_
      refine guard_no rfl rfl ?_
      refine guard_yes rfl rfl ?_
      refine op_pure (pv_pickF rfl rfl (v := .bool _) rfl) ?_
      refine op_pure (pv_pickF rfl rfl (v := .bool _) rfl) ?_
      refine xp_condF rfl (rfl) ?_
      refine xp_skip ?_
      refine xp_seq ?_
      refine xp_seq ?_
      refine xp_region rfl ?_
      refine op_pure (pv_move (v := .int .i64 _) rfl) ?_
      refine op_pure (pv_of (v := .bool _) rfl) ?_
      refine xp_condF rfl (rfl) ?_
      have hn0 : decide ((n : Int) < 0) = false := decide_eq_false (by omega)
      refine xp_skip ?_
      refine xp_seq ?_
      refine xp_seq ?_
      refine xp_region rfl ?_
      refine op_pure (pv_move (v := .int .i64 _) rfl) ?_
      refine op_pure (pv_of (v := .bool _) rfl) ?_
      refine op_pure (pv_move (v := .bool _) rfl) ?_
      refine guard_yes rfl hn0 ?_
      refine op_pure (pv_move (v := .int .i64 _) rfl) ?_
      refine guard_yes rfl hn0 ?_
      refine op_pure (pv_of (v := .bool _) rfl) ?_
      refine op_pure (pv_pickF rfl hn0 (v := .bool _) rfl) ?_
      refine xp_condF rfl ((by simp; omega)) ?_
      refine xp_skip ?_
      refine xp_seq ?_
      refine xp_seq ?_
      refine xp_region rfl ?_
      refine op_pure (pv_assign (v := .int .i64 _) rfl) ?_
      refine xp_block ?_
      refine xp_loopB [2, 14, 15, 16, 90, 91, 92, 93, 94, 95, 96, 97, 98, 99, 100, 101, 102, 103, 104, 105, 106, 107, 108, 109, 110, 111, 112, 113, 114, 115, 116, 117, 118, 119, 120, 121] 3 (α := Nat) (fun y => [(14, .int .i64 y)]) (fun y => _) (fun y h_y => 1 ≤ y ∧ y ≤ n + 2) (fun y => n + 2 - y) (1) ⟨rfl, trivial⟩ (rfl) (⟨Nat.le_refl _, by omega⟩) ?_
      rintro y T1 h_y E_y J_y
      refine goes_norm [_, _, _] rfl ?_
      obtain ⟨K1, K2⟩ := J_y
      refine xp_seq ?_
      refine xp_seq ?_
      refine xp_region rfl ?_
      refine op_pure (pv_move (v := .int .i64 _) rfl) ?_
      refine op_pure (pv_move (v := .int .i64 _) rfl) ?_
      refine op_pure (pv_arith rfl (by omega)) ?_
      refine op_pure (pv_min rfl rfl) ?_
      refine op_pure (pv_of (v := .bool _) rfl) ?_
      refine xp_cond rfl (fun ht2 => ?_) (fun ht2 => ?_)
      · skip
        have hb1 : y ≤ n + 1 ∧ y ≤ 30 := by have := of_decide_eq_true ht2; omega
        have hsays := margin_says s q u (b := y) K1 (by omega) hb1.2
        rw [hn] at hsays
        have hki : kindAt s q = s.joints[q].kind := by simp [kindAt, List.getElem?_eq_getElem hq]
        have Cw : CheckS (warmS s s.joints[q].kind y) := C.warm (by omega)
        obtain ⟨fe', fv'⟩ := failed_of Cw (may_bare Cw (warmS_reports _ _ _)) (j := q) (w := u) (by rw [warmS_joints]; exact hq) (by rw [warmS_heats]; exact hu)
        rw [hki] at hsays
        obtain ⟨v', hv'⟩ : ∃ v', failedM (warmS s s.joints[q].kind y) q u = v' := ⟨_, rfl⟩
        rw [hv'] at fv' hsays
        have hsays' : decide (v' = 2) = decide ((y : Int) ≤ (n : Int)) := by rw [hsays, decide_eq_decide]; omega
        obtain ⟨g, off, hA2, hcj⟩ := (RS.joints.ext (Ext.trans (Ext.trans (Ext.trans (Ext.trans E3 E4) E5) E6) E_y)).at (by omega) hq
        refine xp_skip ?_
        refine xp_seq ?_
        refine xp_block ?_
        refine xp_seq ?_
        refine xp_dw [] rfl rfl rfl ?_
        refine dw_load (i := 0) rfl (by decide +kernel) ?_
        refine op_loadPA 1 (vs := [.slice _ _ _, .slice _ _ _, .slice _ _ _, .slice _ _ _]) rfl rfl rfl rfl rfl ?_
        refine dw_pure (i := 1) rfl (by decide +kernel) (pv_fieldAddr rfl rfl rfl rfl 2 rfl) ?_
        refine dw_load (i := 2) rfl (by decide +kernel) ?_
        refine op_loadP 1 (v := .slice _ _ _) rfl rfl rfl rfl ?_
        refine dw_pure (i := 3) rfl (by decide +kernel) (pv_move (v := .int .i64 _) rfl) ?_
        refine dw_pure (i := 4) rfl (by decide +kernel) (pv_indexE rfl hA2 rfl rfl rfl (by omega) (by omega)) ?_
        refine dw_pure (i := 5) rfl (by decide +kernel) (pv_fieldAddr rfl rfl rfl rfl _ rfl) ?_
        refine dw_load (i := 6) rfl (by decide +kernel) ?_
        refine op_load (v := .int .i64 _) rfl rfl (hcj 0 (.int .i64 s.joints[q].kind) rfl) ?_
        refine dw_pure (i := 7) rfl (by decide +kernel) (pv_move (v := .int .i64 _) rfl) ?_
        refine dw_pure (i := 9) rfl (by decide +kernel) (pv_move (v := .int .i64 _) rfl) ?_
        refine dw_pure (i := 10) rfl (by decide +kernel) (pv_move (v := .int .i64 _) rfl) ?_
        refine dw_last (i := 8) rfl (by decide +kernel) (by decide +kernel) ?_
        refine op_fn (caps := []) (vs := [.agg #[.slice _ _ _, .slice _ _ _, .slice _ _ _, .slice _ _ _], .int .i64 _, .int .i64 _]) rfl rfl rfl (Warmer_ok s A0 A1 A2 A3 c0 c1 c2 c3 h_y (RS.ext (Ext.trans (Ext.trans (Ext.trans (Ext.trans E3 E4) E5) E6) E_y)) (by omega) (by omega) (by omega) (by omega) HB DB _ _ (kinds _ (List.getElem_mem hq)) (by omega)) ?_
        rintro _ h7 E7 ⟨B0, B1, B2, B3, d0, d1, d2, d3, rfl, RW⟩
        have HW := Failed_ok (warmS s s.joints[q].kind y) (small_of Cw) q u B0 B1 B2 B3 d0 d1 d2 d3 h7 RW
        rw [fe', fv'] at HW
        refine dw_last (i := 11) rfl (by decide +kernel) (by decide +kernel) ?_
        refine op_fn (caps := []) (vs := [.agg #[.slice _ _ _, .slice _ _ _, .slice _ _ _, .slice _ _ _], .int .i64 _, .int .i64 _]) rfl rfl rfl (HW) ?_
        rintro _ h8 E8 rfl
        refine dw_pure (i := 12) rfl (by decide +kernel) (pv_move (v := .tuple #[.int .i64 _, .int .i64 _]) rfl) ?_
        refine dw_pure (i := 13) rfl (by decide +kernel) (pv_of (v := .int .i64 _) rfl) ?_
        refine dw_pure (i := 14) rfl (by decide +kernel) (pv_of (v := .int .i64 _) rfl) ?_
        refine dw_pure (i := 15) rfl (by decide +kernel) (pv_assign (v := .int .i64 _) rfl) ?_
        refine dw_pure (i := 16) rfl (by decide +kernel) (pv_assign (v := .int .i64 _) rfl) ?_
        refine dw_end rfl ?_
        refine xp_seq ?_
        refine xp_region rfl ?_
        refine op_pure (pv_move (v := .int .i64 _) rfl) ?_
        refine op_pure (pv_of (v := .bool _) rfl) ?_
        refine op_pure (pv_move (v := .bool _) rfl) ?_
        refine guard_yes rfl rfl ?_
        refine op_pure (pv_move (v := .int .i64 _) rfl) ?_
        refine guard_yes rfl rfl ?_
        refine op_pure (pv_of (v := .bool _) rfl) ?_
        refine guard_yes rfl rfl ?_
        refine op_pure (pv_move (v := .int .i64 _) rfl) ?_
        refine guard_yes rfl rfl ?_
        refine op_pure (pv_move (v := .int .i64 _) rfl) ?_
        refine guard_yes rfl rfl ?_
        refine op_pure (pv_of (v := .bool _) rfl) ?_
        refine guard_yes rfl rfl ?_
        refine op_pure (pv_of (v := .bool _) rfl) ?_
        refine op_pure (pv_pickF rfl rfl (v := .bool _) rfl) ?_
        refine xp_condF rfl ((by rw [show (v' == 2) = decide ((y : Int) ≤ (n : Int)) from hsays']; simp)) ?_
        refine xp_skip ?_
        refine xp_region rfl ?_
        refine op_pure (pv_move (v := .int .i64 _) rfl) ?_
        refine op_pure (pv_arith rfl (by omega)) ?_
        refine op_pure (pv_assign (v := .int .i64 _) rfl) ?_
        refine ⟨y + 1, ⟨rfl, trivial⟩, rfl, rfl, (Ext.trans (Ext.trans E_y E7) E8), fun h3 E3 => ⟨by omega, by omega⟩, by first | omega | (dsimp only; omega), ?_⟩
        repeat (first | exact off_base _ _ _ | refine off_upd (by decide) ?_ | refine off_updL rfl ?_ | refine off_mix rfl ?_)
      · skip
        refine xp_exit ?_
        refine xp_seq ?_
        refine xp_region rfl ?_
        refine op_fn (caps := []) (vs := []) rfl rfl rfl (warm_ok h_y) ?_
        rintro _ h9 E9 rfl
        refine op_pure (pv_assign (v := .bool _) rfl) ?_
        refine xp_ret ?_
        exact ⟨rfl, fun V => (Ext.trans (Ext.trans (Ext.trans (Ext.trans (Ext.trans (Ext.trans (Ext.trans (Ext.trans E1 E2) E3) E4) E5) E6) E_y) E9) (ext_wl V)), rfl⟩
    · skip
      have me : marginE s q u = 11 := by unfold marginE; rw [fe, fv, if_pos rfl, if_neg hv2]
      have mv : marginV s q u = 0 := by unfold marginV; rw [me]; rfl
      have hvf : decide (v = 2) = false := decide_eq_false hv2
      refine dw_pure (i := 12) rfl (by decide +kernel) (pv_assign (v := .int .i64 _) rfl) ?_
      refine dw_pure (i := 13) rfl (by decide +kernel) (pv_assign (v := .int .i64 _) rfl) ?_
      refine dw_end rfl ?_
      refine xp_seq ?_
      refine xp_region rfl ?_
      refine op_loadPA 1 (vs := [.slice _ _ _, .slice _ _ _, .slice _ _ _, .slice _ _ _]) rfl rfl rfl rfl rfl ?_
      refine op_pure (pv_move (v := .int .i64 _) rfl) ?_
      refine op_pure (pv_move (v := .int .i64 _) rfl) ?_
      have HM := Margin_ok s Sm q u A0 A1 A2 A3 c0 c1 c2 c3 h4 (RS.ext (Ext.trans E3 E4))
      rw [me, mv] at HM
      refine op_fn (caps := []) (vs := [.agg #[.slice _ _ _, .slice _ _ _, .slice _ _ _, .slice _ _ _], .int .i64 _, .int .i64 _]) rfl rfl rfl (HM) ?_
      rintro _ h5 E5 rfl
      refine op_pure (pv_move (v := .tuple #[.int .i64 _, .int .i64 _]) rfl) ?_
      refine op_pure (pv_of (v := .int .i64 _) rfl) ?_
      refine op_pure (pv_of (v := .int .i64 _) rfl) ?_
      refine op_pure (pv_assign (v := .int .i64 _) rfl) ?_
      refine op_pure (pv_assign (v := .int .i64 _) rfl) ?_
      refine xp_seq ?_
      refine xp_region rfl ?_
      refine op_loadPA 1 (vs := [.slice _ _ _, .slice _ _ _, .slice _ _ _, .slice _ _ _]) rfl rfl rfl rfl rfl ?_
      refine op_pure (pv_move (v := .int .i64 _) rfl) ?_
      refine op_pure (pv_move (v := .int .i64 _) rfl) ?_
      refine op_fn (caps := []) (vs := [.agg #[.slice _ _ _, .slice _ _ _, .slice _ _ _, .slice _ _ _], .int .i64 _, .int .i64 _]) rfl rfl rfl (HD h5 (RS.ext (Ext.trans (Ext.trans E3 E4) E5))) ?_
      rintro _ h6 E6 rfl
      have g9 : (decide ((11 : Int) = 0) != decide (v = 2)) = false := by rw [hvf]; rfl
      refine op_pure (pv_move (v := .tuple #[.int .i64 _, .int .i64 _]) rfl) ?_
      refine op_pure (pv_of (v := .int .i64 _) rfl) ?_
      refine op_pure (pv_of (v := .int .i64 _) rfl) ?_
      refine op_pure (pv_assign (v := .int .i64 _) rfl) ?_
      refine op_pure (pv_assign (v := .int .i64 _) rfl) ?_
      refine xp_seq ?_
      refine xp_seq ?_
      refine xp_region rfl ?_
      refine op_pure (pv_move (v := .int .i64 _) rfl) ?_
      refine op_pure (pv_of (v := .bool _) rfl) ?_
      refine op_pure (pv_move (v := .bool _) rfl) ?_
      refine guard_yes rfl rfl ?_
      refine op_pure (pv_move (v := .int .i64 _) rfl) ?_
      refine guard_yes rfl rfl ?_
      refine op_pure (pv_of (v := .bool _) rfl) ?_
      refine guard_yes rfl rfl ?_
      refine op_pure (pv_move (v := .int .i64 _) rfl) ?_
      refine guard_yes rfl rfl ?_
      refine op_pure (pv_of (v := .bool _) rfl) ?_
      refine guard_yes rfl rfl ?_
      refine op_pure (pv_of (v := .bool _) rfl) ?_
      refine op_pure (pv_pickF rfl rfl (v := .bool _) rfl) ?_
      refine op_pure (pv_move (v := .bool _) rfl) ?_
      refine guard_yes rfl g9 ?_
      refine op_pure (pv_move (v := .int .i64 _) rfl) ?_
      refine guard_yes rfl g9 ?_
      refine op_pure (pv_of (v := .bool _) rfl) ?_
      refine guard_yes rfl g9 ?_
      refine op_pure (pv_move (v := .bool _) rfl) ?_
      refine guard_yes rfl rfl ?_
      refine op_pure (pv_move (v := .int .i64 _) rfl) ?_
      refine guard_yes rfl rfl ?_
      refine op_pure (pv_of (v := .bool _) rfl) ?_
      refine guard_yes rfl g9 ?_
      refine op_pure (pv_pickT rfl rfl (v := .bool _) rfl) ?_
      refine op_pure (pv_pickF rfl g9 (v := .bool _) rfl) ?_
      refine xp_condF rfl (rfl) ?_
      refine xp_skip ?_
      refine xp_seq ?_
      refine xp_seq ?_
      refine xp_region rfl ?_
      refine op_pure (pv_move (v := .int .i64 _) rfl) ?_
      refine op_pure (pv_of (v := .bool _) rfl) ?_
      refine xp_condT rfl (rfl) ?_
      refine xp_seq ?_
      refine xp_region rfl ?_
      refine op_fn (caps := []) (vs := []) rfl rfl rfl (warm_ok h6) ?_
      rintro _ h9 E9 rfl
      refine op_pure (pv_assign (v := .bool _) rfl) ?_
      refine xp_ret ?_
      exact ⟨rfl, fun V => (Ext.trans (Ext.trans (Ext.trans (Ext.trans (Ext.trans (Ext.trans (Ext.trans E1 E2) E3) E4) E5) E6) E9) (ext_wl V)), rfl⟩
end Go.Proofs.Ytndfkbapoinmkaa
