/- An own logic over the model, its walks and its plain laws, joined of parts Tc Td U CC W26 Te W27 W28 Tf Tg W29 W30 W31 Th W32 Ti W33 Tj W34 W35. Conditions: as each theorem states. -/
import Derived.Test.YtndfkbapoinmkaaLa4
import Derived.Test.YtndfkbapoinmkaaLa1
import Derived.Test.YtndfkbapoinmkaaLa2
set_option linter.all false
/- Plain: when a joint truly fails. Conditions: as each theorem states. -/
namespace Go.Wx
open Go Go.HL
theorem failP_spec (x : List Int) (hi lo many life : Int) : ∀ k, k ≤ x.length → x.length - k ≤ failP x hi lo many life k ∧ failP x hi lo many life k ≤ x.length ∧ (failP x hi lo many life k < x.length → failW x hi lo many life (failP x hi lo many life k) = true) ∧ ∀ w, x.length - k ≤ w → w < failP x hi lo many life k → failW x hi lo many life w = false
  | 0, _ => ⟨by simp [failP], by simp [failP], fun h => absurd h (by simp [failP]), fun w h1 h2 => by simp [failP] at h2; omega⟩
  | k + 1, hk => by
    obtain ⟨a, b, c, d⟩ := failP_spec x hi lo many life k (by omega)
    unfold failP
    split
    · rename_i h
      exact ⟨Nat.le_refl _, by omega, fun _ => h, fun w h1 h2 => by omega⟩
    · rename_i h
      refine ⟨by omega, b, c, fun w h1 h2 => ?_⟩
      by_cases hw : w = x.length - (k + 1)
      · rw [hw]; simpa using h
      · exact d w (by omega) h2
/-- The first week that fails is told by what it is. -/
theorem failT_eq {x : List Int} {hi lo many life : Int} {f : Nat} (h1 : f ≤ x.length) (h2 : f < x.length → failW x hi lo many life f = true) (h3 : ∀ w, w < f → failW x hi lo many life w = false) : failT x hi lo many life = f := by
  obtain ⟨_, b, c, d⟩ := failP_spec x hi lo many life x.length (Nat.le_refl _)
  unfold failT
  rcases Nat.lt_trichotomy (failP x hi lo many life x.length) f with h | h | h
  · have := h3 _ h
    rw [c (by omega)] at this
    cases this
  · exact h
  · have := d f (by omega) h
    rw [h2 (by omega)] at this
    cases this
theorem coldM_cold (l : List Int) (c : Int) : ∀ k, k ≤ l.length → l.length ≤ 6 → (coldM (skyOf l) c k).length = coldN l c k
  | 0, _, _ => rfl
  | k + 1, hk, h6 => by
    have hkl : k < l.length := by omega
    rw [coldM_succ, coldN_succ hkl, ← coldM_cold l c k (by omega) h6, skyOf_at l k (by omega), List.getD_eq_getElem?_getD, List.getElem?_eq_getElem hkl]
    show (if l[k] ≤ c then _ else _ : List Int).length = _
    split <;> simp
theorem coldM_at (x : Sky) (c : Int) (w n : Nat) (hw : w < n) (hc : x.at w ≤ c) : (coldM x c n)[(coldM x c w).length]? = some (w : Int) := by
  induction n with
  | zero => omega
  | succ n ih =>
    rw [coldM_succ]
    by_cases h : w = n
    · subst h
      rw [if_pos hc, List.getElem?_append_right (Nat.le_refl _)]
      simp
    · have := ih (by omega)
      split
      · rw [List.getElem?_append_left (List.getElem?_eq_some_iff.1 this).1]; exact this
      · exact this
end Go.Wx
/- Plain: what the truth of a season says of its questions. Conditions: as each theorem states. -/
namespace Go.Wx
open Go Go.HL
theorem listN_pair (m : Nat) : ∀ k, (listN m k).Pairwise (· < ·)
  | 0 => by simp [listN]
  | k + 1 => by
    rw [listN_succ]
    split
    · rw [List.pairwise_append]
      refine ⟨listN_pair m k, by simp, fun a ha b hb => ?_⟩
      obtain ⟨i, rfl, hi, _⟩ := listN_mem ha
      simp at hb
      subst hb
      omega
    · exact listN_pair m k
theorem mem_listN {m k : Nat} {z : Int} : z ∈ listN m k ↔ ∃ i : Nat, z = i ∧ i < k ∧ m.testBit i = true := by
  refine ⟨listN_mem, ?_⟩
  rintro ⟨i, rfl, hi, hb⟩
  unfold listN
  simp only [List.mem_map, List.mem_filter, List.mem_range]
  exact ⟨i, ⟨hi, hb⟩, rfl⟩
theorem when0_spec (x : Sky) (n : Nat) (h : Int) (hn : n ≤ 6) : when0 x n h ≤ n ∧ (when0 x n h < n → h ≤ x.at (when0 x n h)) ∧ ∀ w, w < n → h ≤ x.at w → when0 x n h ≤ w := by
  unfold when0
  have hp := listN_pair (hotM x h n) 7
  have hm := @mem_listN (hotM x h n) 7
  split
  · rename_i e
    refine ⟨Nat.le_refl _, fun h => absurd h (by omega), fun w hw hh => ?_⟩
    have : (w : Int) ∈ listN (hotM x h n) 7 := hm.2 ⟨w, rfl, by omega, by rw [hotM_bit]; simp [hw, hh]⟩
    rw [show listN (hotM x h n) 7 = [] from e] at this
    cases this
  · rename_i w l e
    rw [show listN (hotM x h n) 7 = w :: l from e] at hp hm
    obtain ⟨i, rfl, hi, hb⟩ := hm.1 (List.mem_cons_self ..)
    rw [hotM_bit] at hb
    simp at hb
    refine ⟨by simp; omega, fun _ => by simpa using hb.2, fun w hw hh => ?_⟩
    have : (w : Int) ∈ (i : Int) :: l := hm.2 ⟨w, rfl, by omega, by rw [hotM_bit]; simp [hw, hh]⟩
    rcases List.mem_cons.1 this with h1 | h1
    · simp; omega
    · have := (List.pairwise_cons.1 hp).1 _ h1
      simp; omega
theorem coldM_pair (x : Sky) (c : Int) : ∀ k, (coldM x c k).Pairwise (· < ·)
  | 0 => by simp [coldM]
  | k + 1 => by
    rw [coldM_succ]
    split
    · rw [List.pairwise_append]
      refine ⟨coldM_pair x c k, by simp, fun a ha b hb => ?_⟩
      obtain ⟨i, rfl, hi, _⟩ := coldM_mem ha
      simp at hb
      subst hb
      omega
    · exact coldM_pair x c k
theorem pair_inj {l : List Int} (hp : l.Pairwise (· < ·)) {i j : Nat} {z : Int} (hi : l[i]? = some z) (hj : l[j]? = some z) : i = j := by
  obtain ⟨h1, e1⟩ := List.getElem?_eq_some_iff.1 hi
  obtain ⟨h2, e2⟩ := List.getElem?_eq_some_iff.1 hj
  rw [List.pairwise_iff_getElem] at hp
  rcases Nat.lt_trichotomy i j with h | h | h
  · have := hp i j h1 h2 h; omega
  · exact h
  · have := hp j i h2 h1 h; omega
theorem when1_spec (l : List Int) (hl : l.length ≤ 6) (c : Int) (many : Nat) (hm : 1 ≤ many) : when1 (skyOf l) l.length c many ≤ l.length ∧ (when1 (skyOf l) l.length c many < l.length → (skyOf l).at (when1 (skyOf l) l.length c many) ≤ c ∧ coldN l c (when1 (skyOf l) l.length c many + 1) = many) ∧ ∀ w, w < l.length → (skyOf l).at w ≤ c → coldN l c (w + 1) = many → when1 (skyOf l) l.length c many = w := by
  have step : ∀ w, w < l.length → (skyOf l).at w ≤ c → coldN l c (w + 1) = (coldM (skyOf l) c w).length + 1 := by
    intro w hw hc
    rw [← coldM_cold l c (w + 1) (by omega) hl, coldM_succ, if_pos hc]
    simp
  have third : ∀ w, w < l.length → (skyOf l).at w ≤ c → coldN l c (w + 1) = many → when1 (skyOf l) l.length c many = w := by
    intro w hw hc he
    have h1 := coldM_at (skyOf l) c w l.length hw hc
    rw [step w hw hc] at he
    have h2 := (List.getElem?_eq_some_iff.1 h1).1
    unfold when1
    rw [if_pos (by omega), show many - 1 = (coldM (skyOf l) c w).length from by omega, List.getD_eq_getElem?_getD, h1]
    rfl
  unfold when1 at third ⊢
  by_cases h : many ≤ (coldM (skyOf l) c l.length).length
  · rw [if_pos h] at third ⊢
    have hx : (coldM (skyOf l) c l.length)[many - 1]? = some ((coldM (skyOf l) c l.length)[many - 1]'(by omega)) := List.getElem?_eq_getElem (by omega)
    obtain ⟨w, hw, h1, h2⟩ := coldM_mem (List.getElem_mem (show many - 1 < (coldM (skyOf l) c l.length).length by omega))
    rw [hw] at hx
    have h3 := coldM_at (skyOf l) c w l.length h1 h2
    have h4 := pair_inj (coldM_pair _ _ _) hx h3
    rw [List.getD_eq_getElem?_getD, hx] at third ⊢
    refine ⟨by simp; omega, fun _ => ?_, third⟩
    simp only [Option.getD_some, Int.toNat_natCast]
    exact ⟨h2, by rw [step w h1 h2]; omega⟩
  · rw [if_neg h] at third ⊢
    exact ⟨Nat.le_refl _, fun h => absurd h (by omega), third⟩
/-- The week of a failure, in a weather that is known, is the first week with a cause. -/
theorem weekM_T (l : List Int) (hl : l.length ≤ 6) (hi lo : Int) (many life : Nat) (hm : 1 ≤ many) : failT l hi lo many life = weekM (skyOf l) l.length hi lo many life := by
  obtain ⟨a1, a2, a3⟩ := when0_spec (skyOf l) l.length hi hl
  obtain ⟨b1, b2, b3⟩ := when1_spec l hl lo many hm
  have hat : ∀ w, w < l.length → l.getD w 0 = (skyOf l).at w := fun w hw => (skyOf_at l w (by omega)).symm
  refine failT_eq (weekM_le ..) (fun h => ?_) (fun w hw => ?_)
  · unfold failW
    rw [hat _ h]
    simp only [Bool.or_eq_true, Bool.and_eq_true, decide_eq_true_eq]
    generalize he : weekM (skyOf l) l.length hi lo many life = f at h ⊢
    unfold weekM at he
    have : f = when0 (skyOf l) l.length hi ∨ f = when1 (skyOf l) l.length lo many ∨ f = life := by omega
    rcases this with e | e | e
    · left; left; rw [e]; exact a2 (by omega)
    · right; rw [e] at h ⊢; have := b2 h; exact ⟨this.1, by exact_mod_cast this.2⟩
    · left; right; exact_mod_cast e
  · have hwn : w < l.length := Nat.lt_of_lt_of_le hw (weekM_le ..)
    unfold weekM at hw
    unfold failW
    rw [hat _ hwn]
    rw [Bool.eq_false_iff]
    intro hc
    simp only [Bool.or_eq_true, Bool.and_eq_true, decide_eq_true_eq] at hc
    rcases hc with (h | h) | ⟨h1, h2⟩
    · have := a3 w hwn h; omega
    · omega
    · have := b3 w hwn h1 (by exact_mod_cast h2); omega
theorem uptoM_bit (m k w : Nat) : (uptoM m k).testBit w = (m.testBit w && decide (w ≤ k)) := by
  unfold uptoM
  rw [Nat.testBit_and, Nat.testBit_two_pow_sub_one]
  congr 1
  rw [decide_eq_decide]
  omega
theorem toldStep_bit (j : Int) (m : Nat) (r : Seen) (w : Nat) (hw : w < 64) (hm : m < 2 ^ 64) (hr : 0 ≤ r.week) : (toldStep j m r).testBit w = (m.testBit w && (!decide (r.joint = j) || (r.failed == decide ((w : Int) ≤ r.week)))) := by
  have hwk : decide (w ≤ r.week.toNat) = decide ((w : Int) ≤ r.week) := by rw [decide_eq_decide]; omega
  unfold toldStep
  by_cases h : r.joint = j
  · rw [if_neg (by simp [h])]
    cases hf : r.failed with
    | true => simp [uptoM_bit, h, hwk]
    | false =>
      have hu : uptoM m r.week.toNat < 2 ^ 64 := uptoM_lt hm
      simp only [h, Bool.false_eq_true, if_false, decide_true, Bool.not_true, Bool.false_or]
      rw [Nat.testBit_and, show 2 ^ 64 - 1 - uptoM m r.week.toNat = 2 ^ 64 - (uptoM m r.week.toNat + 1) from by omega, Nat.testBit_two_pow_sub_succ hu, uptoM_bit, hwk]
      cases m.testBit w <;> simp [hw]
  · rw [if_pos h]; simp [h]
/-- Which weeks the reports leave for a joint. -/
theorem toldW_bit (s : Season) (h6 : s.heats.length ≤ 6) (hr : ∀ r ∈ s.reports, 0 ≤ r.week) (i w : Nat) (hw : w < 64) : (toldW s i).testBit w = (decide (w ≤ s.heats.length) && s.reports.all fun r => !decide (r.joint = (i : Int)) || (r.failed == decide ((w : Int) ≤ r.week))) := by
  have key : ∀ (l : List Seen) (m : Nat), m < 2 ^ 64 → (∀ r ∈ l, 0 ≤ r.week) → (l.foldl (toldStep i) m).testBit w = (m.testBit w && l.all fun r => !decide (r.joint = (i : Int)) || (r.failed == decide ((w : Int) ≤ r.week))) := by
    intro l
    induction l with
    | nil => intro m _ _; simp
    | cons r l ih =>
      intro m hm hr
      rw [List.foldl_cons, ih _ (toldStep_lt hm) (fun q hq => hr q (List.mem_cons_of_mem _ hq)), toldStep_bit _ _ _ _ hw hm (hr r (List.mem_cons_self ..)), List.all_cons, Bool.and_assoc]
  have h2 : 2 ^ (s.heats.length + 1) ≤ 2 ^ 7 := Nat.pow_le_pow_right (by omega) (by omega)
  unfold toldW toldM
  rw [List.take_length, key _ _ (by omega) hr, Nat.testBit_two_pow_sub_one]
  congr 1
  rw [decide_eq_decide]
  omega
theorem mem_failuresM {j : Joint} {x : Sky} {n : Nat} {y : Fl} : y ∈ failuresM j x n ↔ ∃ h c many life : Int, (j.high.mn ≤ h ∧ h ≤ j.high.mx) ∧ (j.low.mn ≤ c ∧ c ≤ j.low.mx) ∧ (j.weeks.mn ≤ many ∧ many ≤ j.weeks.mx) ∧ (j.life.mn ≤ life ∧ life ≤ j.life.mx) ∧ y = failM x n h c many.toNat life.toNat := by
  unfold failuresM fails1 fails2 fails3 fails4
  simp only [List.mem_flatMap, List.mem_map, mem_rangeI]
  constructor
  · rintro ⟨h, h1, c, h2, m, h3, l, h4, rfl⟩
    exact ⟨h, c, m, l, by omega, by omega, by omega, by omega, rfl⟩
  · rintro ⟨h, c, m, l, h1, h2, h3, h4, rfl⟩
    exact ⟨h, by omega, c, by omega, m, by omega, l, by omega, rfl⟩
theorem mem_okAll {s : Season} {n : Int} {x : Sky} : x ∈ okK s n (allSkies s n).length ↔ x ∈ allSkies s n ∧ okM s n x = true := by
  unfold okK
  rw [List.take_length, List.mem_filter]
theorem mem_pushAll (x : Sky) : ∀ (l acc : List Sky), x ∈ l.foldl pushSky acc ↔ x ∈ acc ∨ x ∈ l
  | [], acc => by simp
  | y :: l, acc => by
    rw [List.foldl_cons, mem_pushAll x l]
    unfold pushSky
    split
    · rename_i h
      have hy : y ∈ acc := List.mem_of_getLast? h
      constructor
      · rintro (h | h) <;> simp [h]
      · rintro (h | h)
        · exact .inl h
        · rcases List.mem_cons.1 h with e | h
          · exact .inl (e ▸ hy)
          · exact .inr h
    · simp only [List.mem_append, List.mem_cons, List.not_mem_nil, or_false, or_assoc]
theorem mem_skM {s : Season} {n : Int} {x : Sky} : x ∈ skM s n ↔ x ∈ allSkies s n ∧ okM s n x = true := by
  show x ∈ (okK s n (allSkies s n).length).foldl pushSky [] ↔ _
  rw [mem_pushAll, mem_okAll]
  simp
theorem mem_flsM {s : Season} {n : Int} {i : Nat} {y : Fl} : y ∈ flsM s n i ↔ ∃ x, x ∈ allSkies s n ∧ okM s n x = true ∧ y ∈ surv s n x i := by
  show y ∈ (okK s n (allSkies s n).length).flatMap _ ↔ _
  rw [List.mem_flatMap]
  constructor
  · rintro ⟨x, hx, hy⟩; obtain ⟨h1, h2⟩ := mem_okAll.1 hx; exact ⟨x, h1, h2, hy⟩
  · rintro ⟨x, h1, h2, hy⟩; exact ⟨x, mem_okAll.2 ⟨h1, h2⟩, hy⟩
theorem mem_fatesM {s : Season} {n : Int} {f : Fate} : f ∈ fatesM s n ↔ ∃ x, x ∈ allSkies s n ∧ okM s n x = true ∧ fateOf s n x = f := by
  show f ∈ (okK s n (allSkies s n).length).map _ ↔ _
  rw [List.mem_map]
  constructor
  · rintro ⟨x, hx, hy⟩; obtain ⟨h1, h2⟩ := mem_okAll.1 hx; exact ⟨x, h1, h2, hy⟩
  · rintro ⟨x, h1, h2, hy⟩; exact ⟨x, mem_okAll.2 ⟨h1, h2⟩, hy⟩
theorem okM_iff {s : Season} {n : Int} {x : Sky} : okM s n x = true ↔ ∀ (i : Nat) j, s.joints[i]? = some j → j.kind = n → surv s n x i ≠ [] := by
  unfold okM
  rw [List.all_eq_true]
  constructor
  · intro h i j hj hk e
    have hl := (List.getElem?_eq_some_iff.1 hj).1
    have := h i (List.mem_range.2 hl)
    unfold kindAt at this
    rw [hj] at this
    simp [hk, fateM, e, maskM] at this
  · intro h i hi
    rw [List.mem_range] at hi
    have hj : s.joints[i]? = some s.joints[i] := List.getElem?_eq_getElem hi
    unfold kindAt
    rw [hj]
    by_cases hk : s.joints[i].kind = n
    · have := h i _ hj hk
      simp [fateM, maskM_zero, this]
    · simp [hk]
theorem mayM_iff {s : Season} : mayM s = true ↔ (∃ x, x ∈ skM s 1) ∧ (∃ x, x ∈ skM s 2) := by
  unfold mayM
  rw [Bool.and_eq_true, decide_eq_true_eq, decide_eq_true_eq, List.length_pos_iff_exists_mem, List.length_pos_iff_exists_mem]
section
variable {weeks joints reports : Nat} {s : Season} {ht dt fs : List Int} (T : SeasonT weeks joints reports s ht dt fs) (hw : weeks ≤ 6)
include T hw
/-- A joint's true failure is among those that can be. -/
theorem true_surv {n : Int} (hn : n = 1 ∨ n = 2) {i : Nat} {j : Joint} {f : Int} (hj : s.joints[i]? = some j) (hk : j.kind = n) (hf : fs[i]? = some f) : ∃ y ∈ surv s n (skyOf (if n = 1 then ht else dt)) i, (y.week : Int) = f := by
  obtain ⟨hi, lo, many, life, J⟩ := T.js.at' i j f hj hf
  have hx : (if n = 1 then ht else dt).length = s.heats.length := by split; · exact T.hn.len.symm
                                                                     · rw [T.dl]; exact T.hn.len.symm
  have h6 : s.heats.length ≤ 6 := by have := T.hn.len; have := T.ww; omega
  have m := J.m
  have l := J.l
  have k := J.k
  have n1 := J.h1.bd (by omega) (by omega)
  have n2 := J.h2.bd (by omega) (by omega)
  have n3 := J.h3.bd (by omega) (by omega)
  have n4 := J.h4.bd (by omega) (by omega)
  have hwk := weekM_T (if n = 1 then ht else dt) (by omega) hi lo many.toNat life.toNat (by omega)
  have hm : ((many.toNat : Nat) : Int) = many := by omega
  have hl : ((life.toNat : Nat) : Int) = life := by omega
  rw [hm, hl, hx] at hwk
  have hff := J.f
  rw [hk] at hff
  refine ⟨failM (skyOf (if n = 1 then ht else dt)) s.heats.length hi lo many.toNat life.toNat, ?_, ?_⟩
  · unfold surv
    rw [hj]
    simp only [hk, if_true]
    refine List.mem_filter.2 ⟨mem_failuresM.2 ⟨hi, lo, many, life, by omega, by omega, by omega, by omega, rfl⟩, ?_⟩
    have hle := weekM_le (skyOf (if n = 1 then ht else dt)) s.heats.length hi lo many.toNat life.toNat
    show (toldW s i).testBit (weekM (skyOf (if n = 1 then ht else dt)) s.heats.length hi lo many.toNat life.toNat) = true
    rw [toldW_bit s h6 (fun r hr => (T.rs r hr).2.2.1) i _ (by omega), Bool.and_eq_true, decide_eq_true_eq]
    refine ⟨hle, ?_⟩
    rw [List.all_eq_true]
    intro r hr
    obtain ⟨r1, r2, r3, r4, r5⟩ := T.rs r hr
    by_cases h : r.joint = (i : Int)
    · have : fs.getD r.joint.toNat 0 = f := by rw [h, Int.toNat_natCast, List.getD_eq_getElem?_getD, hf]; rfl
      rw [this, hff, hwk] at r5
      simp [h, r5]
    · simp [h]
  · show ((weekM _ _ _ _ _ _ : Nat) : Int) = f
    rw [hff, hwk]
theorem true_sky (n : Int) : skyOf (if n = 1 then ht else dt) ∈ allSkies s n := by
  have key : ∀ (ts : List Int) (rs : List Rg), NearL ts rs → ts.length ≤ 6 → (∀ t ∈ ts, -50 ≤ t ∧ t ≤ 100) → skyOf ts ∈ skiesM rs 0 sky0 := by
    intro ts rs N h6 hb
    have hl := N.len
    refine mem_skies rs 0 sky0 (by omega) (fun i r hr => ?_) (fun i hi hc => ?_)
    · have hi := (List.getElem?_eq_some_iff.1 hr).1
      have hi2 : i < ts.length := by omega
      have ht : ts[i]? = some ts[i] := List.getElem?_eq_getElem hi2
      have := N.at' i _ r ht hr
      have hb' := hb ts[i] (List.getElem_mem _)
      have := this.bd hb'.1 hb'.2
      rw [Nat.zero_add, skyOf_at _ _ (by omega), List.getD_eq_getElem?_getD, ht]
      simp only [Option.getD_some]
      omega
    · rw [skyOf_at _ _ hi, List.getD_eq_getElem?_getD, List.getElem?_eq_none (by omega)]
      match i, hi with
      | 0, _ => rfl
      | 1, _ => rfl
      | 2, _ => rfl
      | 3, _ => rfl
      | 4, _ => rfl
      | 5, _ => rfl
      | i + 6, h => omega
  have h1 := T.ww
  have h2 := T.dl
  unfold allSkies weatherM
  split
  · exact key ht s.heats T.hn (by omega) fun t h => by have := T.hb t h; omega
  · exact key dt s.damps T.dn (by omega) fun t h => by have := T.db t h; omega
theorem true_ok {n : Int} (hn : n = 1 ∨ n = 2) : okM s n (skyOf (if n = 1 then ht else dt)) = true := by
  rw [okM_iff]
  intro i j hj hk e
  have hl := (List.getElem?_eq_some_iff.1 hj).1
  have hl' : i < fs.length := by rw [T.js.len]; exact hl
  obtain ⟨y, hy, _⟩ := true_surv T hw hn hj hk (List.getElem?_eq_getElem hl')
  rw [e] at hy
  cases hy
theorem may_T : mayM s = true := mayM_iff.2 ⟨⟨_, mem_skM.2 ⟨true_sky T hw 1, true_ok T hw (.inl rfl)⟩⟩, ⟨_, mem_skM.2 ⟨true_sky T hw 2, true_ok T hw (.inr rfl)⟩⟩⟩
theorem kind_T {i : Nat} {j : Joint} (hj : s.joints[i]? = some j) : j.kind = 1 ∨ j.kind = 2 := by
  have hl := (List.getElem?_eq_some_iff.1 hj).1
  have hl' : i < fs.length := by rw [T.js.len]; exact hl
  obtain ⟨_, _, _, _, J⟩ := T.js.at' i j _ hj (List.getElem?_eq_getElem hl')
  rcases J.k with h | h
  · exact .inl h.1
  · exact .inr h.1
/-- The week in which a joint truly failed is among those in which it can. -/
theorem true_fails {i : Nat} (hi : i < s.joints.length) : ∃ f : Nat, fs[i]? = some (f : Int) ∧ f ≤ s.heats.length ∧ (failsM s i).testBit f = true := by
  have hj : s.joints[i]? = some s.joints[i] := List.getElem?_eq_getElem hi
  have hl' : i < fs.length := by rw [T.js.len]; exact hi
  have hf : fs[i]? = some fs[i] := List.getElem?_eq_getElem hl'
  have hk := kind_T T hw hj
  obtain ⟨y, hy, e⟩ := true_surv T hw hk hj rfl hf
  refine ⟨y.week, by rw [hf, e], surv_week hy, ?_⟩
  unfold failsM
  rw [maskM_bit]
  have ek : kindAt s i = s.joints[i].kind := by unfold kindAt; rw [hj]; rfl
  refine ⟨y, mem_flsM.2 ⟨skyOf (if s.joints[i].kind = 1 then ht else dt), ?_, ?_, ?_⟩, rfl⟩
  · rw [ek]; exact true_sky T hw _
  · rw [ek]; exact true_ok T hw hk
  · rw [ek]; exact hy
theorem fails_ne {i : Nat} (hi : i < s.joints.length) : failsM s i ≠ 0 := by
  obtain ⟨f, _, _, h⟩ := true_fails T hw hi
  intro e
  rw [e] at h
  simp at h
end
end Go.Wx
/- The own logic, part U: from a walk to the row of a law. Conditions: none. -/
namespace Go.HL
open Go Go.Wx Go.RowKit
/-- What is asked at the end of a law. -/
def lawK (t : Nat) (h0 : AH) : Post
  | .normal, S, D, L, h => D = [] ∧ (Valid h L → Ext h0 (wl h L)) ∧ S t = .bool true
  | .ret, S, D, L, h => D = [] ∧ (Valid h L → Ext h0 (wl h L)) ∧ S t = .bool true
  | _, _, _, _, _ => False
theorem below_of {w w' : World} (se : SameEnv w w') (e : Ext (absH w.heap) (absH w'.heap)) : Below w.heap.size w w' := by
  have hb : ∀ k, k < w.heap.size → w'.heap[k]? = w.heap[k]? := by
    intro k hk
    have h1 : absH w.heap k = some w.heap[k] := Array.getElem?_eq_getElem hk
    have h2 : w'.heap[k]? = some w.heap[k] := e k _ h1
    rw [h2]
    exact (Array.getElem?_eq_getElem hk).symm
  refine ⟨se.os, se.tape, se.output, ?_, hb⟩
  rcases Nat.lt_or_ge w'.heap.size w.heap.size with h1 | h1
  · have h2 := hb w'.heap.size h1
    rw [Array.getElem?_eq_getElem h1] at h2
    simp at h2
  · exact h1
theorem calls_body {P : Program} {f : FuncId} {fn : Func} {c : Code} {args : Array Value} {n t : Nat} {w : World} (hf : P.funcs[f]? = some fn) (hb : fn.body = some c) (hn : fn.ntmps = n) (ha : Nat.ble args.size n = true) (hr : fn.results = #[.tmp t]) (ht : Nat.blt t n = true)
    (x : ∀ h, h = absH w.heap → xp P n none c (lawK t h) (argS args) [] [] h) : Calls P f args w (fun e w' => e = .returned (.bool true) ∧ Below w.heap.size w w') := by
  intro cs
  have he : Frame.enter P f args .normal = mk { (default : Frame) with fn := f, kind := .normal, roundOf := none } n (argS args) [] [.code c] := by
    simp [Frame.enter, mk, hf, hb, hn, enter_tmps n args (Nat.le_of_ble_eq_true ha)]
  have hres : ∀ (S : Sl) (w' : World), S t = .bool true → (results fn (arr n S)).run P w' = .ok (.bool true) w' := by
    intro S w' hs
    unfold results
    rw [hr, List.mapM_toArray]
    have e1 : (arr n S).getD t undef = .bool true := by rw [arr_getD, if_pos (Nat.lt_of_lt_of_le (Nat.lt_succ_self t) (Nat.le_of_ble_eq_true ht)), hs]
    show Result.ok ((arr n S).getD t undef) w' = _
    rw [e1]
  have x1 := x _ rfl (absH w.heap) (by have := Fits.nil (valid_nil (Fin.abs w.heap)); rw [wl_nil] at this; exact this) { (default : Frame) with fn := f, kind := .normal, roundOf := none } rfl [] cs
  have x2 : Rch P (fun fr cs' H => cs' = cs ∧ fr.mode = .returning ∧ fr.defers = [] ∧ fr.kind = .normal ∧ fr.fn = f ∧ (∃ S, fr.tmps = arr n S ∧ S t = .bool true) ∧ Ext (absH w.heap) H) (mk { (default : Frame) with fn := f, kind := .normal, roundOf := none } n (argS args) [] [.code c]) cs (absH w.heap) := by
    refine x1.bind ?_
    rintro fr cs' H ⟨rfl, e, S', D', L', h', V', kk, a⟩
    cases e with
    | normal =>
      obtain ⟨rfl, ex, hs⟩ := kk
      have a' : fr = mk { (default : Frame) with fn := f, kind := .normal, roundOf := none } n S' [] [] := a
      subst a'
      have hH : H = wl h' L' := by rw [V'.eq]; exact hun_nil _
      subst hH
      refine .ctl (fr' := { mk { (default : Frame) with fn := f, kind := .normal, roundOf := none } n S' [] [] with mode := .returning }) (cs' := cs') (fun w => by simp [stepG, stepG.exec, mk]) (.done ⟨rfl, rfl, rfl, rfl, rfl, ⟨S', rfl, hs⟩, ex V'.valid⟩)
    | ret =>
      obtain ⟨rfl, ex, hs⟩ := kk
      obtain ⟨todo, rfl⟩ := a.1 rfl
      have hH : H = wl h' L' := by rw [V'.eq]; exact hun_nil _
      subst hH
      exact .done ⟨rfl, rfl, rfl, rfl, rfl, ⟨S', rfl, hs⟩, ex V'.valid⟩
    | _ => exact kk.elim
  obtain ⟨fr', cs', w', st, se, rfl, hm, hd, hk, hfn, ⟨S, htm, hs⟩, ex⟩ := x2.lone w rfl
  refine ⟨.returned (.bool true), w', fr', ⟨rfl, below_of se ex⟩, ?_, hfn, hm, hd, hk, fn, by rw [hfn]; exact hf, by rw [htm]; exact hres S w' hs⟩
  rw [he]
  exact st
/-- A slice of ints that came in. -/
theorem row_of {w : World} {a : Option Addr} {len cap : Nat} {zs : List Int} (h : (a = none ∧ len = 0 ∧ cap = 0 ∧ zs = []) ∨
    ∃ x, a = some x ∧ len ≤ cap ∧ cap ≤ maxLen ∧ zs.length = cap ∧ (∀ i, i < zs.length → w.cell? (x.add i) = some (.int .i64 (zs.getD i 0))) ∧ ∀ n ∈ zs, (Lit.int .i64 n).wf = true) :
    ∃ l : List Int, l.length = len ∧ Row (absH w.heap) 1 intC a l ∧ len ≤ maxLen ∧ ∀ n ∈ l, (Lit.int .i64 n).wf = true := by
  rcases h with ⟨rfl, rfl, rfl, rfl⟩ | ⟨x, rfl, hl, hm, hz, hc, hw⟩
  · exact ⟨[], rfl, ⟨fun _ h => (by cases h), Rd.nil _ _⟩, Nat.zero_le _, fun _ h => (by cases h)⟩
  · refine ⟨zs.take len, by rw [List.length_take]; omega, ⟨fun _ _ => rfl, ?_⟩, by omega, fun n hn => hw n (List.mem_of_mem_take hn)⟩
    have hflat : ∀ l : List Int, l.flatMap intC = l.map (Value.int .i64) := by
      intro l
      induction l with
      | nil => rfl
      | cons a l ih => simp [List.flatMap_cons, ih, intC]
    rw [hflat]
    intro hne
    have hpos : 0 < zs.length := by
      rcases Nat.eq_zero_or_pos zs.length with h0 | h0
      · rw [List.eq_nil_of_length_eq_zero h0] at hne; simp at hne
      · exact h0
    obtain ⟨g, off, sp⟩ := x
    have h0 := hc 0 hpos
    have hsp : sp = none := by
      cases sp with
      | none => rfl
      | some s =>
        exfalso
        have : w.cell? ((⟨g, off, some s⟩ : Addr).add 0) = none := by
          simp only [Addr.add]
          rw [cell_abs]
          unfold cellA
          split <;> simp
        rw [this] at h0
        cases h0
    subst hsp
    refine ⟨g, off, rfl, fun j u hu => ?_⟩
    have hj : j < zs.length := by
      have := (List.getElem?_eq_some_iff.1 hu).1
      rw [List.length_map, List.length_take] at this
      omega
    have h1 := hc j hj
    rw [cell_abs, add_none] at h1
    rw [h1]
    rw [List.getElem?_map, List.getElem?_take] at hu
    split at hu
    · rw [List.getElem?_eq_getElem hj] at hu
      simp only [Option.map_some, Option.some.injEq] at hu
      rw [← hu]
      simp [List.getD_eq_getElem?_getD, hj]
    · cases hu
end Go.HL
/- The own logic, part CC: guarded operations that turn memory, amid drawn regions. Conditions: none. -/
namespace Go.HL
open Go
variable {P : Program} {n : Nat} {ops : Array Oper} {i : Nat} {d : Option Tmp} {op : Op} {ty : TypeId} {ps : String} {af : Array Edge} {S : Sl} {L : Pv} {h : AH} {mask : List Bool} {X : Sl → AH → Prop} {dn ac : List Nat}
theorem dw_effG {j : Nat} {want t : Bool} (hoi : ops[i]? = some ⟨d, op, ty, ps, af, some (j, want)⟩) (hok : okE ops dn i = true)
    (ht : ev n S (.tmp (((ops[j]?).bind (·.dst)).getD n)) = .bool t) (hb : t = want) (w : wpL P n ops [⟨d, op, ty, ps, af, none⟩] (fun S' L' h' => Ext (wl h (rmM mask L)) (wl h' (rmM mask L')) ∧ Dw P n ops mask X (i :: dn) (i :: ac) S' L' h') (fun _ _ _ _ => False) S L h) : Dw P n ops mask X dn ac S L h := by
  intro V G hG
  unfold okE at hok
  rw [hoi] at hok
  simp only [Bool.and_eq_true] at hok
  obtain ⟨⟨hr, hbl⟩, hap⟩ := hok
  obtain ⟨m, hm⟩ := left_pos hr
  obtain ⟨hi, hdi⟩ := ready_lt hr
  rw [hm]
  refine take_any hoi m dn ac G S (wl h L) (fin_wl V) hm hr ?_ ?_ (fun g hg => (hG g hg).2.1) ?_ ?_
  · intro x hx
    have := List.all_eq_true.1 hbl x ((el_mem _ _).1 hx)
    simpa using this
  · intro g hg _
    exact (hG g hg).2.1 _ _ (ext_rm V) (hG g hg).2.2
  · intro j oj hoj hji hdj hbj
    have hjl : j < ops.size := (Array.getElem?_eq_some_iff.1 hoj).1
    have := List.all_eq_true.1 hap j (by simpa using hjl)
    rw [hoj, hdj, hbj] at this
    simp only [Bool.or_false, Bool.or_eq_true, beq_iff_eq, Bool.and_eq_true, Option.isNone_iff_eq_none] at this
    obtain ⟨⟨h1, h2⟩, h3⟩ := this.resolve_left hji
    exact ⟨h1, h2, h3⟩
  · refine ⟨some t, by rw [ht]; rfl, fun _ => ?_, fun hn => absurd (congrArg some hb) hn⟩
    show opW P n ⟨d, op, ty, ps, af, none⟩ S (wl h L) _ noE
    refine opW_mono ?_ ?_ (w V)
    · rintro v H ⟨L', h', rfl, V', hE, hD⟩
      have hG' : ∀ g ∈ G, ((∀ H, g.2 H) ∨ (isLd ops g.1 = true ∧ el g.1 (i :: dn) = true)) ∧ (∀ H1 H2, Ext H1 H2 → g.2 H1 → g.2 H2) ∧ g.2 (wl h' (rmM mask L')) := by
        intro g hg
        obtain ⟨h1, h2, h3⟩ := hG g hg
        exact ⟨h1.imp id (fun e => ⟨e.1, by simp [el_cons, e.2]⟩), h2, h2 _ _ hE h3⟩
      refine ⟨fun g hg _ => (hG' g hg).2.1 _ _ (ext_rm V') (hG' g hg).2.2, ?_⟩
      have := hD V' G hG'
      rw [left_cons hi hdi hm] at this
      exact this
    · rintro v H ⟨L', h', rfl, V', y⟩; exact y
theorem dw_lastG {j : Nat} {want t : Bool} (hoi : ops[i]? = some ⟨d, op, ty, ps, af, some (j, want)⟩) (hok : okE ops dn i = true) (hl : okL ops dn i = true)
    (ht : ev n S (.tmp (((ops[j]?).bind (·.dst)).getD n)) = .bool t) (hb : t = want) (w : wpL P n ops [⟨d, op, ty, ps, af, none⟩] (fun S' L' h' => Dw P n ops mask X (i :: dn) (i :: ac) S' L' h') (fun _ _ _ _ => False) S L h) : Dw P n ops mask X dn ac S L h := by
  intro V G hG
  unfold okE at hok
  rw [hoi] at hok
  simp only [Bool.and_eq_true] at hok
  obtain ⟨⟨hr, hbl⟩, hap⟩ := hok
  obtain ⟨m, hm⟩ := left_pos hr
  obtain ⟨hi, hdi⟩ := ready_lt hr
  rw [hm]
  refine take_any hoi m dn ac G S (wl h L) (fin_wl V) hm hr ?_ ?_ (fun g hg => (hG g hg).2.1) ?_ ?_
  · intro x hx
    have := List.all_eq_true.1 hbl x ((el_mem _ _).1 hx)
    simpa using this
  · intro g hg _
    exact (hG g hg).2.1 _ _ (ext_rm V) (hG g hg).2.2
  · intro j oj hoj hji hdj hbj
    have hjl : j < ops.size := (Array.getElem?_eq_some_iff.1 hoj).1
    have := List.all_eq_true.1 hap j (by simpa using hjl)
    rw [hoj, hdj, hbj] at this
    simp only [Bool.or_false, Bool.or_eq_true, beq_iff_eq, Bool.and_eq_true, Option.isNone_iff_eq_none] at this
    obtain ⟨⟨h1, h2⟩, h3⟩ := this.resolve_left hji
    exact ⟨h1, h2, h3⟩
  · refine ⟨some t, by rw [ht]; rfl, fun _ => ?_, fun hn => absurd (congrArg some hb) hn⟩
    show opW P n ⟨d, op, ty, ps, af, none⟩ S (wl h L) _ noE
    refine opW_mono ?_ ?_ (w V)
    · rintro v H ⟨L', h', rfl, V', hD⟩
      -- the facts that are still asked hold everywhere
      have hdead : ∀ g ∈ G, (∀ H, g.2 H) ∨ ¬ alive ops (i :: ac) g.1 := by
        intro g hg
        rcases (hG g hg).1 with h1 | ⟨h1, h2⟩
        · exact .inl h1
        · right
          intro a
          have := List.all_eq_true.1 hl g.1 ((el_mem _ _).1 h2)
          rw [h1] at this
          simp only [Bool.not_true, Bool.false_or] at this
          have := a i this
          simp [el_cons] at this
      refine ⟨fun g hg a => ((hdead g hg).resolve_right (fun n => n a)) _, ?_⟩
      have hall : ∀ (m : Nat) (dn' ac' : List Nat) (S' : Sl) (H' : AH), (∀ k, el k (i :: ac) = true → el k ac' = true) → WG P n ops m dn' ac' [] X S' H' → WG P n ops m dn' ac' G X S' H' := by
        intro m
        induction m with
        | zero => intro dn' ac' S' H' _ w; exact w
        | succ m ih =>
          intro dn' ac' S' H' hsub w j oj hoj hrj
          refine T1_mono (fun S2 H2 y => ⟨fun g hg a => ?_, ih _ _ _ _ (fun k hk => by simp [el_cons, hsub k hk]) y.2⟩) (w j oj hoj hrj)
          exact ((hdead g hg).resolve_right (fun n => n (alive_less (fun k hk => by simp [el_cons, hsub k hk]) a))) _
      have := hD V' [] (fun g hg => by cases hg)
      rw [left_cons hi hdi hm] at this
      exact hall m _ _ _ _ (fun _ h => h) this
    · rintro v H ⟨L', h', rfl, V', y⟩; exact y
end Go.HL
/- Walks: the law that goes week by week. Conditions: as each theorem states. -/
namespace Go.Proofs.Ytndfkbapoinmkaa
open Go Go.HL Go.Proofs Go.Wx Go.RowKit
set_option maxRecDepth 100000
theorem SeasonT.small {a b c : Nat} {s : Season} {ht dt fs : List Int} (T : SeasonT a b c s ht dt fs) (ha : a ≤ 6) (hb : b ≤ 3) (hc : c ≤ 100) : Small s := by
  have := T.hn.len; have := T.dn.len; have := T.dl; have := T.ww; have := T.jl; have := T.rl
  exact ⟨by omega, by omega, by omega, by omega⟩
section
variable {a b c : Nat} {s : Season} {ht dt fs : List Int} (T : SeasonT a b c s ht dt fs) (ha : a ≤ 6) (hb : b ≤ 3) (hc : c ≤ 5)
include T ha hb hc
theorem known_T {es : List Int} (he : ∀ e ∈ es, e = 0) : knownM s es = 0 := by
  unfold knownM
  rw [check_T T ha hb hc, if_neg (by simp), firstErr_all (f := id) he, if_neg (by simp), may_T T ha]
  rfl
theorem isJoint_lt {s : Season} {j : Nat} (hj : j < s.joints.length) : isJointM s j = 0 := by
  unfold isJointM inM
  rw [if_pos (by simp; omega)]
theorem isWeek_lt {s : Season} {w : Nat} (hw : w < s.heats.length) : isWeekM s w = 0 := by
  unfold isWeekM inM
  rw [if_pos (by simp; omega)]
theorem failsE_T {j : Nat} (hj : j < s.joints.length) : failsE s j = 0 := known_T T ha hb hc (by simp [isJoint_lt T ha hb hc hj])
theorem failsL_T {j : Nat} (hj : j < s.joints.length) : failsL s j = listM (failsM s j) := by
  unfold failsL
  rw [failsE_T T ha hb hc hj]
  rfl
theorem failedE_T {j w : Nat} (hj : j < s.joints.length) (hw : w < s.heats.length) : failedE s j w = 0 := known_T T ha hb hc (by simp [isJoint_lt T ha hb hc hj, isWeek_lt T ha hb hc hw])
theorem failedV_T {j w : Nat} (hj : j < s.joints.length) (hw : w < s.heats.length) : failedV s j w = failedM s j w := by
  unfold failedV
  rw [failedE_T T ha hb hc hj hw]
  rfl
end
def beforeM (s : Season) (j : Nat) : Nat → Int
  | 0 => 2
  | w + 1 => failedM s j w
theorem list_pos : ∀ m : Fin 128, m.val ≠ 0 → 0 < (listM m.val).length := by decide +kernel
/-- What the weeks of a set say of a week. -/
theorem failedM_ends {s : Season} (h6 : s.heats.length ≤ 6) {j w : Nat} (hn : failsM s j ≠ 0) (hw : w < 7) : failedM s j w = verdictM (decide ((listM (failsM s j)).headD 0 ≤ (w : Int))) (decide ((listM (failsM s j)).getLastD 0 > (w : Int))) := by
  obtain ⟨h1, h2, _⟩ := list_ends ⟨failsM s j, failsM_lt h6 j⟩ ⟨w, hw⟩ hn
  unfold failedM
  dsimp only at h1 h2
  rw [h1, h2]
theorem before_always {s : Season} (h6 : s.heats.length ≤ 6) {j w : Nat} (hn : failsM s j ≠ 0) (hw : w < 7) (h : beforeM s j w = 1) : failedM s j w = 1 := by
  cases w with
  | zero => simp [beforeM] at h
  | succ w =>
    simp only [beforeM] at h
    rw [failedM_ends h6 hn (by omega)] at h ⊢
    unfold verdictM at h ⊢
    simp only [gt_iff_lt, Bool.not_eq_true', decide_eq_false_iff_not, Int.not_lt] at h ⊢
    split at h
    · rw [if_pos (by omega)]
    · split at h <;> cases h
theorem before_never {s : Season} (h6 : s.heats.length ≤ 6) {j w : Nat} (hn : failsM s j ≠ 0) (hw : w < 7) (h : failedM s j w = 2) : beforeM s j w = 2 := by
  cases w with
  | zero => rfl
  | succ w =>
    simp only [beforeM]
    obtain ⟨_, _, h3⟩ := list_ends ⟨failsM s j, failsM_lt h6 j⟩ ⟨w, by omega⟩ hn
    dsimp only at h3
    rw [failedM_ends h6 hn (by omega)] at h ⊢
    unfold verdictM at h ⊢
    simp only [gt_iff_lt, Bool.not_eq_true', decide_eq_false_iff_not, Int.not_lt] at h ⊢
    split at h
    · cases h
    · split at h
      · rw [if_neg (by omega), if_pos (by omega)]
      · cases h
end Go.Proofs.Ytndfkbapoinmkaa
/- Plain: seasons without an error, and without reports; how much warmer it may be. Conditions: as each theorem states. -/
namespace Go.Wx
open Go Go.HL
structure CheckS (s : Season) : Prop where
  w1 : 1 ≤ s.heats.length
  w6 : s.heats.length ≤ 6
  dl : s.damps.length = s.heats.length
  h : ∀ r ∈ s.heats, checkWeatherM r = 0
  d : ∀ r ∈ s.damps, checkWeatherM r = 0
  j3 : s.joints.length ≤ 3
  j : ∀ j ∈ s.joints, checkJointM j = 0
  r5 : s.reports.length ≤ 5
  r : ∀ r ∈ s.reports, checkSeenM s r = 0
theorem CheckS.ok {s : Season} (c : CheckS s) : checkM s = 0 := by
  have h1 := c.w1; have h2 := c.w6; have h3 := c.dl; have h4 := c.j3; have h5 := c.r5
  unfold checkM
  rw [if_neg (by omega), if_neg (by omega), if_neg (by omega), if_neg (by omega), firstErr_all (fun x hx => (List.mem_append.1 hx).elim (c.h x) (c.d x)), if_neg (by simp), if_neg (by omega), firstErr_all c.j, if_neg (by simp), if_neg (by omega), firstErr_all c.r]
theorem CheckS.of {s : Season} (h : checkM s = 0) : CheckS s := by
  have V := checkM_zero h
  unfold checkM at h
  split at h
  · cases h
  · split at h
    · cases h
    · split at h
      · cases h
      · split at h
        · cases h
        · split at h
          · rename_i h1; exact absurd h h1
          · rename_i h1
            split at h
            · cases h
            · split at h
              · rename_i h2; exact absurd h h2
              · rename_i h2
                split at h
                · cases h
                · have w := firstErr_zero (by simpa using h1)
                  exact ⟨by omega, by omega, by omega, fun r hr => w r (List.mem_append_left _ hr), fun r hr => w r (List.mem_append_right _ hr), by omega, firstErr_zero (by simpa using h2), by omega, firstErr_zero h⟩
theorem checkWeather_iff {r : Rg} : checkWeatherM r = 0 ↔ -50 ≤ r.mn ∧ r.mn ≤ r.mx ∧ r.mx ≤ 100 ∧ r.mx - r.mn ≤ 2 := by
  constructor
  · intro h
    obtain ⟨⟨_, a, _, b⟩, c, d⟩ := checkWeatherM_zero h
    omega
  · exact checkWeather_of
theorem warm_weather {l : List Rg} {z : Nat} {d : Int} (hd : 0 ≤ d ∧ d ≤ 30) (h : ∀ r ∈ l, checkWeatherM r = 0) : ∀ r ∈ warmL l z d, checkWeatherM r = 0 := by
  intro r hr
  obtain ⟨x, hx, rfl | rfl⟩ := mem_warmL hr
  · have := checkWeather_iff.1 (h x hx)
    refine checkWeather_iff.2 ?_
    simp only [capR, upR]
    omega
  · have := checkWeather_iff.1 (h x hx)
    refine checkWeather_iff.2 ?_
    simp only [capR]
    omega
theorem CheckS.warm {s : Season} (c : CheckS s) {n d : Int} (hd : 0 ≤ d ∧ d ≤ 30) : CheckS (warmS s n d) := by
  have hl : (warmL s.heats s.heats.length d).length = s.heats.length := warmL_len _ _ _
  have hl2 : (warmL s.damps s.heats.length d).length = s.damps.length := warmL_len _ _ _
  unfold warmS
  split
  · exact ⟨by show 1 ≤ (warmL _ _ _).length; rw [hl]; exact c.w1, by show (warmL _ _ _).length ≤ 6; rw [hl]; exact c.w6, by show s.damps.length = (warmL _ _ _).length; rw [hl]; exact c.dl, warm_weather hd c.h, c.d, c.j3, c.j, Nat.zero_le _, fun r h => (by cases h)⟩
  · exact ⟨c.w1, c.w6, by show (warmL _ _ _).length = _; rw [hl2]; exact c.dl, c.h, warm_weather hd c.d, c.j3, c.j, Nat.zero_le _, fun r h => (by cases h)⟩
theorem some_sky {s : Season} (c : CheckS s) (n : Int) : ∃ x, x ∈ allSkies s n := by
  have key : ∀ (rs : List Rg), rs.length ≤ 6 → (∀ r ∈ rs, checkWeatherM r = 0) → skyOf (rs.map Rg.mn) ∈ skiesM rs 0 sky0 := by
    intro rs h6 hb
    refine mem_skies rs 0 sky0 (by omega) (fun i r hr => ?_) (fun i hi hc => ?_)
    · have hi := (List.getElem?_eq_some_iff.1 hr).1
      rw [Nat.zero_add, skyOf_at _ _ (by omega), List.getD_eq_getElem?_getD, List.getElem?_map, hr]
      have := checkWeather_iff.1 (hb r (List.mem_of_getElem? hr))
      simp only [Option.map_some, Option.getD_some]
      omega
    · rw [skyOf_at _ _ hi, List.getD_eq_getElem?_getD, List.getElem?_eq_none (by rw [List.length_map]; omega)]
      match i, hi with
      | 0, _ => rfl
      | 1, _ => rfl
      | 2, _ => rfl
      | 3, _ => rfl
      | 4, _ => rfl
      | 5, _ => rfl
      | i + 6, h => omega
  have h1 := c.w6
  have h2 := c.dl
  unfold allSkies weatherM
  split
  · exact ⟨_, key s.heats (by omega) c.h⟩
  · exact ⟨_, key s.damps (by omega) c.d⟩
theorem bare_ok {s : Season} (c : CheckS s) (hr : s.reports = []) (n : Int) (x : Sky) : okM s n x = true := by
  rw [okM_iff]
  intro i j hj hk
  have B := (checkJointM_zero (c.j j (List.mem_of_getElem? hj))).1
  have hm : failM x s.heats.length j.high.mn j.low.mn j.weeks.mn.toNat j.life.mn.toNat ∈ failuresM j x s.heats.length := mem_failuresM.2 ⟨_, _, _, _, ⟨Int.le_refl _, B.h2⟩, ⟨Int.le_refl _, B.l2⟩, ⟨Int.le_refl _, B.w2⟩, ⟨Int.le_refl _, B.a2⟩, rfl⟩
  have hw := failuresM_week hm
  have h6 := c.w6
  unfold surv
  rw [hj]
  simp only [hk, if_true]
  refine List.ne_nil_of_mem (List.mem_filter.2 ⟨hm, ?_⟩)
  rw [toldW_bit s h6 (by rw [hr]; intro r h; cases h) i _ (by omega), hr]
  simpa using hw
theorem may_bare {s : Season} (c : CheckS s) (hr : s.reports = []) : mayM s = true := by
  obtain ⟨x, hx⟩ := some_sky c 1
  obtain ⟨y, hy⟩ := some_sky c 2
  exact mayM_iff.2 ⟨⟨x, mem_skM.2 ⟨hx, bare_ok c hr 1 x⟩⟩, ⟨y, mem_skM.2 ⟨hy, bare_ok c hr 2 y⟩⟩⟩
theorem known_of {s : Season} (c : CheckS s) (m : mayM s = true) {es : List Int} (he : ∀ e ∈ es, e = 0) : knownM s es = 0 := by
  unfold knownM
  rw [c.ok, if_neg (by simp), firstErr_all (f := id) he, if_neg (by simp), m]
  rfl
theorem warmS_reports (s : Season) (n d : Int) : (warmS s n d).reports = [] := by unfold warmS; split <;> rfl
theorem marginM_le (s : Season) (j w : Nat) : marginM s j w ≤ 30 := by
  unfold marginM
  cases h : (List.range 30).find? (tooWarm s j w) with
  | none => simp
  | some k =>
    have := List.mem_of_find?_eq_some h
    rw [List.mem_range] at this
    simp; omega
/-- Up to the margin the joint stays whole, and not with one more. -/
theorem margin_says (s : Season) (j w : Nat) {b : Nat} (h1 : 1 ≤ b) (h2 : b ≤ marginM s j w + 1) (h3 : b ≤ 30) : decide (failedM (warmS s (kindAt s j) (b : Int)) j w = 2) = decide (b ≤ marginM s j w) := by
  obtain ⟨k, rfl⟩ : ∃ k, b = k + 1 := ⟨b - 1, by omega⟩
  have hk : k < 30 := by omega
  have ht : decide (failedM (warmS s (kindAt s j) ((k + 1 : Nat) : Int)) j w = 2) = !tooWarm s j w k := by
    unfold tooWarm
    rw [show ((k + 1 : Nat) : Int) = (k : Int) + 1 from by omega]
    simp
  rw [ht]
  unfold marginM at h2 ⊢
  cases h : (List.range 30).find? (tooWarm s j w) with
  | none =>
    have := List.find?_eq_none.1 h k (by simpa using hk)
    simp only [Option.getD_none]
    rw [decide_eq_true (by omega)]
    simpa using this
  | some m =>
    rw [h] at h2
    simp only [Option.getD_some] at h2 ⊢
    obtain ⟨e1, e2, e3⟩ := List.find?_range_eq_some.1 h
    by_cases hkm : k = m
    · subst hkm
      rw [e1, decide_eq_false (by omega)]
      rfl
    · have := e3 k (by omega)
      rw [decide_eq_true (by omega)]
      exact this
/-- The first k changed. -/
def mapN {α : Type} (f : α → α) (l : List α) (k : Nat) : List α := (l.take k).map f ++ l.drop k
section
variable {α : Type} {f : α → α} {l : List α}
theorem mapN_len (f : α → α) (l : List α) (k : Nat) : (mapN f l k).length = l.length := by simp [mapN]; omega
theorem mapN_zero (f : α → α) (l : List α) : mapN f l 0 = l := by simp [mapN]
theorem mapN_all (f : α → α) (l : List α) : mapN f l l.length = l.map f := by simp [mapN]
theorem mapN_at {k : Nat} (hk : k < l.length) : (mapN f l k)[k]? = some l[k] := by
  unfold mapN
  rw [List.getElem?_append_right (by simp; omega)]
  simp [Nat.min_eq_left (Nat.le_of_lt hk), List.getElem?_eq_getElem hk]
theorem mapN_succ {k : Nat} (hk : k < l.length) : (mapN f l k).set k (f l[k]) = mapN f l (k + 1) := by
  unfold mapN
  rw [List.set_append_right _ _ (by simp; omega), take_snoc hk, List.map_append]
  have : k - (List.map f (List.take k l)).length = 0 := by simp; omega
  rw [this, List.drop_eq_getElem_cons hk, List.set_cons_zero, List.append_assoc]
  rfl
end
theorem raisedN_all (l : List Rg) (d : Int) : raisedN l 0 l.length d = l.map fun r => upR r d := by
  apply List.ext_getElem?
  intro i
  rw [raisedN_get, List.getElem?_map]
  by_cases hi : i < l.length
  · rw [List.getElem?_eq_getElem hi]
    simp only [Option.map_some]
    rw [if_pos ⟨Nat.zero_le _, hi⟩]
  · rw [List.getElem?_eq_none (by omega)]; rfl
theorem warmL_all (l : List Rg) (d : Int) : warmL l l.length d = l.map fun r => capR (upR r d) := by
  unfold warmL
  rw [raisedN_all, List.map_map]
  rfl
end Go.Wx
/- Walks: a season copied, and a warmer one (the reference). Conditions: as each theorem states. -/
namespace Go.Proofs.Ytndfkbapoinmkaa
open Go Go.HL Go.Proofs Go.Wx
set_option maxRecDepth 100000
theorem copied_ok (s : Season) (A0 A1 A2 A3 : Option Addr) (c0 c1 c2 c3 : Nat) (h : AH) (R : SeasonR h A0 A1 A2 A3 s) (h0 : s.heats.length < 2 ^ 20) (h1 : s.damps.length < 2 ^ 20) (h2 : s.joints.length < 2 ^ 20) :
    FnM Try.prog (.func (.func 96) #[] ([] : List Value).toArray) [seasonV A0 A1 A2 A3 c0 c1 c2 c3 s] h [] (fun v h' M' => ∃ a0 a1 a2 : Acc, M' = [a0.p, a1.p, a2.p] ∧ v = .agg #[.slice a0.A a0.n a0.c, .slice a1.A a1.n a1.c, .slice a2.A a2.n a2.c, .slice none 0 0]
      ∧ AccR 51 2 (s.heats.flatMap rgC) a0 ∧ AccR 51 2 (s.damps.flatMap rgC) a1 ∧ AccR 53 9 (s.joints.flatMap jointC) a2) := by
  refine fnM_body rfl rfl Try.func96 rfl Try.ntmps96 rfl ?_
  refine xp_seq ?_
  refine xp_region rfl ?_
  refine op_box (v := .agg #[.slice _ _ _, .slice _ _ _, .slice _ _ _, .slice _ _ _]) (cs := [_, _, _, _]) rfl rfl fun b1 hb1 => ?_
  refine wp_norm [_] rfl ?_
  refine op_alloc (cs := [_, _, _, _]) rfl rfl fun b2 hb2 => ?_
  refine wp_norm [_, _] rfl ?_
  refine xp_seq ?_
  refine xp_dw [false, false, true, true, true] rfl rfl rfl ?_
  refine dw_pure (i := 1) rfl (by decide +kernel) (pv_fieldAddr rfl rfl rfl rfl 0 rfl) ?_
  refine dw_load (i := 2) rfl (by decide +kernel) ?_
  refine op_loadP 0 (v := .slice _ _ _) rfl rfl rfl rfl ?_
  refine dw_pure (i := 5) rfl (by decide +kernel) (pv_fieldAddr rfl rfl rfl rfl 1 rfl) ?_
  refine dw_load (i := 6) rfl (by decide +kernel) ?_
  refine op_loadP 0 (v := .slice _ _ _) rfl rfl rfl rfl ?_
  refine dw_pure (i := 9) rfl (by decide +kernel) (pv_fieldAddr rfl rfl rfl rfl 2 rfl) ?_
  refine dw_load (i := 10) rfl (by decide +kernel) ?_
  refine op_loadP 0 (v := .slice _ _ _) rfl rfl rfl rfl ?_
  refine dw_eff (i := 0) rfl (by decide +kernel) ?_
  refine op_buildSlice (zc := [_, _]) (vs := []) (cs := []) rfl rfl rfl rfl rfl rfl rfl fun b3 hb3 => ?_
  refine ⟨ext_newM hb3 _, ?_⟩
  refine dw_norm [_, _, _] rfl ?_
  refine dw_eff (i := 3) rfl (by decide +kernel) ?_
  refine op_appendR 2 accR_new rfl rfl rfl (fun V => R.heats.2.ext (Ext.trans (Ext.refl _) (ext_wl V))) (flat_len R.heats.1) (flat_plain rgP s.heats) rfl rfl rfl rfl rfl rfl rfl (by omega) rfl (by rw [flat_len R.heats.1, List.length_nil]; omega) fun a0 h1a E1a ha0 => ?_
  refine ⟨ext_wlm E1a _, ?_⟩
  refine dw_norm [_, _, _] rfl ?_
  refine dw_eff (i := 4) rfl (by decide +kernel) ?_
  refine op_buildSlice (zc := [_, _]) (vs := []) (cs := []) rfl rfl rfl rfl rfl rfl rfl fun b7 hb7 => ?_
  refine ⟨ext_newM hb7 _, ?_⟩
  refine dw_norm [_, _, _, _] rfl ?_
  refine dw_eff (i := 7) rfl (by decide +kernel) ?_
  refine op_appendR 3 accR_new rfl rfl rfl (fun V => R.damps.2.ext (Ext.trans E1a (ext_wl V))) (flat_len R.damps.1) (flat_plain rgP s.damps) rfl rfl rfl rfl rfl rfl rfl (by omega) rfl (by rw [flat_len R.damps.1, List.length_nil]; omega) fun a1 h2a E2a ha1 => ?_
  refine ⟨ext_wlm E2a _, ?_⟩
  refine dw_norm [_, _, _, _] rfl ?_
  refine dw_eff (i := 8) rfl (by decide +kernel) ?_
  refine op_buildSlice (zc := [_, _, _, _, _, _, _, _, _]) (vs := []) (cs := []) rfl rfl rfl rfl rfl rfl rfl fun b11 hb11 => ?_
  refine ⟨ext_newM hb11 _, ?_⟩
  refine dw_norm [_, _, _, _, _] rfl ?_
  refine dw_last (i := 11) rfl (by decide +kernel) (by decide +kernel) ?_
  refine op_appendR 4 accR_new rfl rfl rfl (fun V => R.joints.2.ext (Ext.trans (Ext.trans E1a E2a) (ext_wl V))) (flat_len R.joints.1) (flat_plain jointP s.joints) rfl rfl rfl rfl rfl rfl rfl (by omega) rfl (by rw [flat_len R.joints.1, List.length_nil]; omega) fun a2 h3a E3a ha2 => ?_
  refine dw_norm [_, _, _, _, _] rfl ?_
  refine dw_pure (i := 12) rfl (by decide +kernel) (pv_build (zc := [_, _, _, _]) (vs := [(0, .slice _ _ _), (1, .slice _ _ _), (2, .slice _ _ _)]) (cs := [_, _, _, _]) rfl rfl rfl rfl rfl rfl) ?_
  refine dw_last (i := 13) rfl (by decide +kernel) (by decide +kernel) ?_
  refine op_storeP 1 (v := .agg #[.slice _ _ _, .slice _ _ _, .slice _ _ _, .slice _ _ _]) (vs := [_, _, _, _]) (c' := [_, _, _, _]) rfl rfl rfl rfl rfl rfl rfl rfl rfl ?_
  refine dw_norm [_, _, _, _, _] rfl ?_
  refine dw_end rfl ?_
  refine xp_ret ?_
  refine res_list (vs := [_]) Try.results96 ⟨resV_agg 1 rfl rfl rfl rfl rfl (vs := [.slice _ _ _, .slice _ _ _, .slice _ _ _, .slice _ _ _]) rfl, trivial⟩ fun V => ?_
  obtain ⟨h9, E9, e9, V9⟩ := wl_shed [_, _] [_, _, _] V
  exact ⟨h9, _, e9, V9, Ext.trans (Ext.trans (Ext.trans E1a E2a) E3a) E9, a0, a1, a2, rfl, rfl, ha0, ha1, ha2⟩
theorem ranges_ok (k : Int) (A0 A1 A2 A3 : Option Addr) (n0 n1 n2 n3 c0 c1 c2 c3 : Nat) (h : AH) :
    FnT Try.prog 97 #[.agg #[.slice A0 n0 c0, .slice A1 n1 c1, .slice A2 n2 c2, .slice A3 n3 c3], .int .i64 k] h (fun v _ => v = if k = 1 then .slice A0 n0 c0 else .slice A1 n1 c1) := by
  refine call_body Try.func97 rfl Try.ntmps97 rfl ?_
  refine xp_seq ?_
  refine xp_region rfl ?_
  refine op_box (v := .agg #[.slice _ _ _, .slice _ _ _, .slice _ _ _, .slice _ _ _]) (cs := [_, _, _, _]) rfl rfl fun b2 hb2 => ?_
  refine wp_norm [_] rfl ?_
  refine op_pure (pv_assign (v := .slice _ _ _) rfl) ?_
  refine xp_seq ?_
  refine xp_seq ?_
  refine xp_region rfl ?_
  refine op_pure (pv_move (v := .int .i64 _) rfl) ?_
  refine op_pure (pv_of (v := .bool _) rfl) ?_
  refine xp_cond rfl (fun hk => ?_) (fun hk => ?_)
  · skip
    refine xp_seq ?_
    refine xp_region rfl ?_
    refine op_pure (pv_fieldAddr rfl rfl rfl rfl 0 rfl) ?_
    refine op_loadP 0 (v := .slice _ _ _) rfl rfl rfl rfl ?_
    refine op_pure (pv_assign (v := .slice _ _ _) rfl) ?_
    refine xp_ret ?_
    refine res_list (vs := [_]) Try.results97 ⟨resV_tmp rfl rfl, trivial⟩ fun V => ?_
    have : k = 1 := by simpa using hk
    exact ⟨(ext_wl V), by rw [if_pos this]; rfl⟩
  · skip
    refine xp_skip ?_
    refine xp_seq ?_
    refine xp_region rfl ?_
    refine op_pure (pv_fieldAddr rfl rfl rfl rfl 1 rfl) ?_
    refine op_loadP 0 (v := .slice _ _ _) rfl rfl rfl rfl ?_
    refine op_pure (pv_assign (v := .slice _ _ _) rfl) ?_
    refine xp_ret ?_
    refine res_list (vs := [_]) Try.results97 ⟨resV_tmp rfl rfl, trivial⟩ fun V => ?_
    have : ¬ k = 1 := by simpa using hk
    exact ⟨(ext_wl V), by rw [if_neg this]; rfl⟩
set_option maxHeartbeats 4000000 in
theorem Warmer_ok (s : Season) (A0 A1 A2 A3 : Option Addr) (c0 c1 c2 c3 : Nat) (h : AH) (R : SeasonR h A0 A1 A2 A3 s) (h0 : s.heats.length < 2 ^ 19) (hdl : s.damps.length = s.heats.length) (h2 : s.joints.length < 2 ^ 19) (hl0 : 0 < s.heats.length)
    (hHb : ∀ r ∈ s.heats, -2 ^ 40 ≤ r.mn ∧ r.mn ≤ 2 ^ 40 ∧ -2 ^ 40 ≤ r.mx ∧ r.mx ≤ 2 ^ 40) (hDmb : ∀ r ∈ s.damps, -2 ^ 40 ≤ r.mn ∧ r.mn ≤ 2 ^ 40 ∧ -2 ^ 40 ≤ r.mx ∧ r.mx ≤ 2 ^ 40) (k d : Int) (hk : k = 1 ∨ k = 2) (hd : -2 ^ 40 ≤ d ∧ d ≤ 2 ^ 40) :
    FnT Try.prog 34 #[seasonV A0 A1 A2 A3 c0 c1 c2 c3 s, .int .i64 k, .int .i64 d] h (fun v h' => SeasonS h' (warmS s k d) v) := by
  refine call_body Try.func34 rfl Try.ntmps34 rfl ?_
  refine xp_seq ?_
  refine xp_region rfl ?_
  refine op_box (v := .agg #[.slice _ _ _, .slice _ _ _, .slice _ _ _, .slice _ _ _]) (cs := [_, _, _, _]) rfl rfl fun b3 hb3 => ?_
  refine wp_norm [_] rfl ?_
  refine op_alloc (cs := [_, _, _, _]) rfl rfl fun b6 hb6 => ?_
  refine wp_norm [_, _] rfl ?_
  refine xp_seq ?_
  refine xp_region rfl ?_
  refine op_loadPA 0 (vs := [.slice _ _ _, .slice _ _ _, .slice _ _ _, .slice _ _ _]) rfl rfl rfl rfl rfl ?_
  refine op_fnMM [_, _] [] [] rfl rfl rfl (copied_ok s A0 A1 A2 A3 c0 c1 c2 c3 h (R.ext (Ext.refl _)) (by omega) (by omega) (by omega)) ?_
  rintro _ h5 _ E5 ⟨a0, a1, a2, rfl, rfl, ha0, ha1, ha2⟩
  refine wp_norm [_, _, _, _, _] rfl ?_
  obtain ⟨bH, lenH, capH, junkH, hlH, rfl⟩ := AccR.some ha0 (by intro e; have := flat_len (l := s.heats) (m := 2) (enc := rgC) (fun _ _ => rfl); rw [e] at this; simp at this; omega)
  obtain ⟨bDm, lenDm, capDm, junkDm, hlDm, rfl⟩ := AccR.some ha1 (by intro e; have := flat_len (l := s.damps) (m := 2) (enc := rgC) (fun _ _ => rfl); rw [e] at this; simp at this; omega)
  have eH : lenH = s.heats.length := by rw [flat_len (m := 2) (fun _ _ => rfl)] at hlH; omega
  have eDm : lenDm = s.damps.length := by rw [flat_len (m := 2) (fun _ _ => rfl)] at hlDm; omega
  have hJ : a2.n = s.joints.length := by have := AccR.len ha2; rw [flat_len (m := 9) (fun _ _ => rfl)] at this; omega
  subst eH eDm
  dsimp only
  refine op_alloc (cs := [_, _, _, _]) rfl rfl fun b7 hb7 => ?_
  refine wp_norm [_, _, _, _, _, _] rfl ?_
  refine op_storeP 5 (v := .agg #[.slice _ _ _, .slice _ _ _, .slice _ _ _, .slice _ _ _]) (vs := [_, _, _, _]) (c' := [_, _, _, _]) rfl rfl rfl rfl rfl rfl rfl rfl rfl ?_
  refine wp_norm [_, _, _, _, _, _] rfl ?_
  refine xp_seq ?_
  refine xp_region rfl ?_
  refine op_loadPA 5 (vs := [.slice _ _ _, .slice _ _ _, .slice _ _ _, .slice _ _ _]) rfl rfl rfl rfl rfl ?_
  refine op_pure (pv_move (v := .int .i64 _) rfl) ?_
  refine op_fn (caps := []) (vs := [.agg #[.slice _ _ _, .slice _ _ _, .slice _ _ _, .slice _ _ _], .int .i64 _]) rfl rfl rfl (ranges_ok _ _ _ _ _ _ _ _ _ _ _ _ _ h5) ?_
  rintro _ h9 E9 rfl
  rcases hk with rfl | rfl
  · skip
    rw [if_pos rfl]
    refine op_pure (pv_assign (v := .slice _ _ _) rfl) ?_
    refine xp_seq ?_
    refine xp_seq ?_
    refine xp_region rfl ?_
    refine op_pure (pv_assign (v := .int .i64 _) rfl) ?_
    refine xp_block ?_
    refine xp_loopL [9, 15, 16, 17, 18, 19, 20, 21, 22, 23, 24, 25, 26, 27, 28, 29, 30, 31, 32, 33, 34, 35, 36, 37, 38, 39, 40] 6 (α := Nat) (fun w => [(9, .int .i64 w)]) (fun w L => L.set 2 (some (bH, .cells ((mapN (fun r => capR (upR r d)) s.heats w).flatMap rgC ++ junkH).toArray 51 (0, 0)))) (fun w h_w => w ≤ s.heats.length) (fun w => s.heats.length - w) (0) ⟨rfl, trivial⟩ (by rw [mapN_zero]; rfl) (Nat.zero_le _) ?_
    rintro w T1 h_w E_w J_w
    refine goes_norm [_, _, _, _, _, _] rfl ?_
    refine xp_seq ?_
    refine xp_seq ?_
    refine xp_region rfl ?_
    refine op_pure (pv_move (v := .int .i64 _) rfl) ?_
    refine op_pure (pv_move (v := .slice _ _ _) rfl) ?_
    refine op_pure (pv_len rfl rfl) ?_
    refine op_pure (pv_of (v := .bool _) rfl) ?_
    refine xp_cond rfl (fun ht => ?_) (fun ht => ?_)
    · skip
      have hwl : w < s.heats.length := ltI ht
      have hrk := hHb _ (List.getElem_mem hwl)
      have hkr : w < (mapN (fun r => capR (upR r d)) s.heats w).length := by rw [mapN_len]; exact hwl
      have hat := mapN_at (f := fun r => capR (upR r d)) hwl
      have hoff : 0 + (w : Int).toNat * 2 = w * 2 := by omega
      refine xp_skip ?_
      refine xp_seq ?_
      refine xp_block ?_
      refine xp_dw [] rfl rfl rfl ?_
      refine dw_pure (i := 0) rfl (by decide +kernel) (pv_move (v := .slice _ _ _) rfl) ?_
      refine dw_pure (i := 1) rfl (by decide +kernel) (pv_move (v := .int .i64 _) rfl) ?_
      refine dw_pure (i := 2) rfl (by decide +kernel) (pv_move (v := .slice _ _ _) rfl) ?_
      refine dw_pure (i := 3) rfl (by decide +kernel) (pv_move (v := .int .i64 _) rfl) ?_
      refine dw_pure (i := 4) rfl (by decide +kernel) (pv_index rfl rfl rfl rfl (by omega) (by omega)) ?_
      refine dw_pure (i := 5) rfl (by decide +kernel) (pv_fieldAddr rfl rfl rfl rfl _ rfl) ?_
      refine dw_load (i := 6) rfl (by decide +kernel) ?_
      refine op_loadP 2 (v := .int .i64 s.heats[w].mn) (off := 0 + (w : Int).toNat * 2) rfl rfl rfl (by rw [hoff]; simpa using rg_mn (junk := junkH) hat) ?_
      refine dw_pure (i := 7) rfl (by decide +kernel) (pv_move (v := .int .i64 _) rfl) ?_
      refine dw_pure (i := 8) rfl (by decide +kernel) (pv_arith rfl (by omega)) ?_
      refine dw_pure (i := 9) rfl (by decide +kernel) (pv_min rfl rfl) ?_
      refine dw_pure (i := 10) rfl (by decide +kernel) (pv_move (v := .slice _ _ _) rfl) ?_
      refine dw_pure (i := 11) rfl (by decide +kernel) (pv_move (v := .int .i64 _) rfl) ?_
      refine dw_pure (i := 12) rfl (by decide +kernel) (pv_index rfl rfl rfl rfl (by omega) (by omega)) ?_
      refine dw_pure (i := 13) rfl (by decide +kernel) (pv_fieldAddr rfl rfl rfl rfl _ rfl) ?_
      refine dw_load (i := 14) rfl (by decide +kernel) ?_
      refine op_loadP 2 (v := .int .i64 s.heats[w].mx) (off := 0 + (w : Int).toNat * 2 + 1) rfl rfl rfl (by rw [hoff]; simpa using rg_mx (junk := junkH) hat) ?_
      refine dw_pure (i := 15) rfl (by decide +kernel) (pv_move (v := .int .i64 _) rfl) ?_
      refine dw_pure (i := 16) rfl (by decide +kernel) (pv_arith rfl (by omega)) ?_
      refine dw_pure (i := 17) rfl (by decide +kernel) (pv_min rfl rfl) ?_
      refine dw_pure (i := 18) rfl (by decide +kernel) (pv_build (zc := [_, _]) (vs := [(0, .int .i64 _), (1, .int .i64 _)]) (cs := [_, _]) rfl rfl rfl rfl rfl rfl) ?_
      refine dw_pure (i := 19) rfl (by decide +kernel) (pv_index rfl rfl rfl rfl (by omega) (by omega)) ?_
      refine dw_last (i := 20) rfl (by decide +kernel) (by decide +kernel) ?_
      refine op_storeP 2 (v := .agg #[.int .i64 _, .int .i64 _]) (vs := [.int .i64 (min (s.heats[w].mn + d) 100), .int .i64 (min (s.heats[w].mx + d) 100)]) (off := 0 + (w : Int).toNat * 2) (c' := (mapN (fun r => capR (upR r d)) s.heats (w + 1)).flatMap rgC ++ junkH) rfl rfl rfl rfl rfl rfl (Nat.ble_eq_true_of_le (by show 0 + (w : Int).toNat * 2 + 2 ≤ _; rw [List.length_append, flat_len (m := 2) (fun _ _ => rfl), mapN_len]; omega)) rfl (by rw [hoff, rg_wr hkr, ← mapN_succ hwl]; rfl) ?_
      refine dw_norm [_, _, _, _, _, _] rfl ?_
      refine dw_end rfl ?_
      refine xp_region rfl ?_
      refine op_pure (pv_move (v := .int .i64 _) rfl) ?_
      refine op_pure (pv_arith rfl (by omega)) ?_
      refine op_pure (pv_assign (v := .int .i64 _) rfl) ?_
      refine ⟨w + 1, ⟨rfl, trivial⟩, rfl, rfl, E_w, fun h3 E3 => by omega, by first | omega | (dsimp only; omega), ?_⟩
      repeat (first | exact off_base _ _ _ | refine off_upd (by decide) ?_ | refine off_updL rfl ?_ | refine off_mix rfl ?_)
    · skip
      have hwe : w = s.heats.length := by have := geI ht; omega
      subst hwe
      refine xp_exit ?_
      refine xp_seq ?_
      refine xp_region rfl ?_
      refine op_loadPA 5 (vs := [.slice _ _ _, .slice _ _ _, .slice _ _ _, .slice _ _ _]) rfl rfl rfl rfl rfl ?_
      refine op_storeP 1 (v := .agg #[.slice _ _ _, .slice _ _ _, .slice _ _ _, .slice _ _ _]) (vs := [_, _, _, _]) (c' := [_, _, _, _]) rfl rfl rfl rfl rfl rfl rfl rfl rfl ?_
      refine wp_norm [_, _, _, _, _, _] rfl ?_
      refine goes_pub 2 rfl ?_
      intro h6 E6 p6
      refine goes_pub 3 rfl ?_
      intro h7 E7 p7
      refine goes_pubO 4 rfl ?_
      intro h8 E8 p8
      refine goes_norm [_, _, _, _, _, _] rfl ?_
      rw [mapN_all] at p6
      refine xp_ret ?_
      refine res_list (vs := [_]) Try.results34 ⟨resV_agg 1 rfl rfl rfl rfl rfl (vs := [.slice _ _ _, .slice _ _ _, .slice _ _ _, .slice _ _ _]) rfl, trivial⟩ fun V => ?_
      refine ⟨(Ext.trans (Ext.trans (Ext.trans (Ext.trans (Ext.trans (Ext.trans E5 E9) E_w) E6) E7) E8) (ext_wl V)), some ⟨bH, 0, none⟩, some ⟨bDm, 0, none⟩, a2.A, none, capH, capDm, a2.c, 0, ?_, ?_⟩
      · unfold seasonV
        rw [warmS_1, hJ]
        rw [warmL_len]
        rfl
      · rw [warmS_1]
        exact ⟨by rw [warmL_all]; exact (rg_row p6).ext (Ext.trans (Ext.trans E7 E8) (ext_wl V)), (rg_row p7).ext (Ext.trans E8 (ext_wl V)), ⟨fun _ _ => rfl, (AccR.rd ha2 p8).ext (ext_wl V)⟩, ⟨fun _ h => (by cases h), Rd.nil _ _⟩⟩
  · skip
    rw [if_neg (by decide)]
    refine op_pure (pv_assign (v := .slice _ _ _) rfl) ?_
    refine xp_seq ?_
    refine xp_seq ?_
    refine xp_region rfl ?_
    refine op_pure (pv_assign (v := .int .i64 _) rfl) ?_
    refine xp_block ?_
    refine xp_loopL [9, 15, 16, 17, 18, 19, 20, 21, 22, 23, 24, 25, 26, 27, 28, 29, 30, 31, 32, 33, 34, 35, 36, 37, 38, 39, 40] 6 (α := Nat) (fun w => [(9, .int .i64 w)]) (fun w L => L.set 3 (some (bDm, .cells ((mapN (fun r => capR (upR r d)) s.damps w).flatMap rgC ++ junkDm).toArray 51 (0, 0)))) (fun w h_w => w ≤ s.damps.length) (fun w => s.damps.length - w) (0) ⟨rfl, trivial⟩ (by rw [mapN_zero]; rfl) (Nat.zero_le _) ?_
    rintro w T2 h_w E_w J_w
    refine goes_norm [_, _, _, _, _, _] rfl ?_
    refine xp_seq ?_
    refine xp_seq ?_
    refine xp_region rfl ?_
    refine op_pure (pv_move (v := .int .i64 _) rfl) ?_
    refine op_pure (pv_move (v := .slice _ _ _) rfl) ?_
    refine op_pure (pv_len rfl rfl) ?_
    refine op_pure (pv_of (v := .bool _) rfl) ?_
    refine xp_cond rfl (fun ht => ?_) (fun ht => ?_)
    · skip
      have hwl : w < s.damps.length := ltI ht
      have hrk := hDmb _ (List.getElem_mem hwl)
      have hkr : w < (mapN (fun r => capR (upR r d)) s.damps w).length := by rw [mapN_len]; exact hwl
      have hat := mapN_at (f := fun r => capR (upR r d)) hwl
      have hoff : 0 + (w : Int).toNat * 2 = w * 2 := by omega
      refine xp_skip ?_
      refine xp_seq ?_
      refine xp_block ?_
      refine xp_dw [] rfl rfl rfl ?_
      refine dw_pure (i := 0) rfl (by decide +kernel) (pv_move (v := .slice _ _ _) rfl) ?_
      refine dw_pure (i := 1) rfl (by decide +kernel) (pv_move (v := .int .i64 _) rfl) ?_
      refine dw_pure (i := 2) rfl (by decide +kernel) (pv_move (v := .slice _ _ _) rfl) ?_
      refine dw_pure (i := 3) rfl (by decide +kernel) (pv_move (v := .int .i64 _) rfl) ?_
      refine dw_pure (i := 4) rfl (by decide +kernel) (pv_index rfl rfl rfl rfl (by omega) (by omega)) ?_
      refine dw_pure (i := 5) rfl (by decide +kernel) (pv_fieldAddr rfl rfl rfl rfl _ rfl) ?_
      refine dw_load (i := 6) rfl (by decide +kernel) ?_
      refine op_loadP 3 (v := .int .i64 s.damps[w].mn) (off := 0 + (w : Int).toNat * 2) rfl rfl rfl (by rw [hoff]; simpa using rg_mn (junk := junkDm) hat) ?_
      refine dw_pure (i := 7) rfl (by decide +kernel) (pv_move (v := .int .i64 _) rfl) ?_
      refine dw_pure (i := 8) rfl (by decide +kernel) (pv_arith rfl (by omega)) ?_
      refine dw_pure (i := 9) rfl (by decide +kernel) (pv_min rfl rfl) ?_
      refine dw_pure (i := 10) rfl (by decide +kernel) (pv_move (v := .slice _ _ _) rfl) ?_
      refine dw_pure (i := 11) rfl (by decide +kernel) (pv_move (v := .int .i64 _) rfl) ?_
      refine dw_pure (i := 12) rfl (by decide +kernel) (pv_index rfl rfl rfl rfl (by omega) (by omega)) ?_
      refine dw_pure (i := 13) rfl (by decide +kernel) (pv_fieldAddr rfl rfl rfl rfl _ rfl) ?_
      refine dw_load (i := 14) rfl (by decide +kernel) ?_
      refine op_loadP 3 (v := .int .i64 s.damps[w].mx) (off := 0 + (w : Int).toNat * 2 + 1) rfl rfl rfl (by rw [hoff]; simpa using rg_mx (junk := junkDm) hat) ?_
      refine dw_pure (i := 15) rfl (by decide +kernel) (pv_move (v := .int .i64 _) rfl) ?_
      refine dw_pure (i := 16) rfl (by decide +kernel) (pv_arith rfl (by omega)) ?_
      refine dw_pure (i := 17) rfl (by decide +kernel) (pv_min rfl rfl) ?_
      refine dw_pure (i := 18) rfl (by decide +kernel) (pv_build (zc := [_, _]) (vs := [(0, .int .i64 _), (1, .int .i64 _)]) (cs := [_, _]) rfl rfl rfl rfl rfl rfl) ?_
      refine dw_pure (i := 19) rfl (by decide +kernel) (pv_index rfl rfl rfl rfl (by omega) (by omega)) ?_
      refine dw_last (i := 20) rfl (by decide +kernel) (by decide +kernel) ?_
      refine op_storeP 3 (v := .agg #[.int .i64 _, .int .i64 _]) (vs := [.int .i64 (min (s.damps[w].mn + d) 100), .int .i64 (min (s.damps[w].mx + d) 100)]) (off := 0 + (w : Int).toNat * 2) (c' := (mapN (fun r => capR (upR r d)) s.damps (w + 1)).flatMap rgC ++ junkDm) rfl rfl rfl rfl rfl rfl (Nat.ble_eq_true_of_le (by show 0 + (w : Int).toNat * 2 + 2 ≤ _; rw [List.length_append, flat_len (m := 2) (fun _ _ => rfl), mapN_len]; omega)) rfl (by rw [hoff, rg_wr hkr, ← mapN_succ hwl]; rfl) ?_
      refine dw_norm [_, _, _, _, _, _] rfl ?_
      refine dw_end rfl ?_
      refine xp_region rfl ?_
      refine op_pure (pv_move (v := .int .i64 _) rfl) ?_
      refine op_pure (pv_arith rfl (by omega)) ?_
      refine op_pure (pv_assign (v := .int .i64 _) rfl) ?_
      refine ⟨w + 1, ⟨rfl, trivial⟩, rfl, rfl, E_w, fun h3 E3 => by omega, by first | omega | (dsimp only; omega), ?_⟩
      repeat (first | exact off_base _ _ _ | refine off_upd (by decide) ?_ | refine off_updL rfl ?_ | refine off_mix rfl ?_)
    · skip
      have hwe : w = s.damps.length := by have := geI ht; omega
      subst hwe
      refine xp_exit ?_
      refine xp_seq ?_
      refine xp_region rfl ?_
      refine op_loadPA 5 (vs := [.slice _ _ _, .slice _ _ _, .slice _ _ _, .slice _ _ _]) rfl rfl rfl rfl rfl ?_
      refine op_storeP 1 (v := .agg #[.slice _ _ _, .slice _ _ _, .slice _ _ _, .slice _ _ _]) (vs := [_, _, _, _]) (c' := [_, _, _, _]) rfl rfl rfl rfl rfl rfl rfl rfl rfl ?_
      refine wp_norm [_, _, _, _, _, _] rfl ?_
      refine goes_pub 2 rfl ?_
      intro h6 E6 p6
      refine goes_pub 3 rfl ?_
      intro h7 E7 p7
      refine goes_pubO 4 rfl ?_
      intro h8 E8 p8
      refine goes_norm [_, _, _, _, _, _] rfl ?_
      rw [mapN_all] at p7
      refine xp_ret ?_
      refine res_list (vs := [_]) Try.results34 ⟨resV_agg 1 rfl rfl rfl rfl rfl (vs := [.slice _ _ _, .slice _ _ _, .slice _ _ _, .slice _ _ _]) rfl, trivial⟩ fun V => ?_
      refine ⟨(Ext.trans (Ext.trans (Ext.trans (Ext.trans (Ext.trans (Ext.trans E5 E9) E_w) E6) E7) E8) (ext_wl V)), some ⟨bH, 0, none⟩, some ⟨bDm, 0, none⟩, a2.A, none, capH, capDm, a2.c, 0, ?_, ?_⟩
      · unfold seasonV
        rw [warmS_2, hJ]
        rw [warmL_len]
        rfl
      · rw [warmS_2]
        exact ⟨(rg_row p6).ext (Ext.trans (Ext.trans E7 E8) (ext_wl V)), by rw [show warmL s.damps s.heats.length d = s.damps.map fun r => capR (upR r d) from (congrArg (fun z => warmL s.damps z d) hdl.symm).trans (warmL_all _ _)]; exact (rg_row p7).ext (Ext.trans E8 (ext_wl V)), ⟨fun _ _ => rfl, (AccR.rd ha2 p8).ext (ext_wl V)⟩, ⟨fun _ h => (by cases h), Rd.nil _ _⟩⟩
end Go.Proofs.Ytndfkbapoinmkaa
/- Walks: the law on the margin. Conditions: as each theorem states. -/
namespace Go.Proofs.Ytndfkbapoinmkaa
open Go Go.HL Go.Proofs Go.Wx Go.RowKit
set_option maxRecDepth 100000
theorem SeasonT.checkS {a b c : Nat} {s : Season} {ht dt fs : List Int} (T : SeasonT a b c s ht dt fs) (ha : a ≤ 6) (hb : b ≤ 3) (hc : c ≤ 5) : CheckS s := CheckS.of (check_T T ha hb hc)
theorem margin_none {s : Season} (c : CheckS s) (h : s.joints.length = 0) : marginE s 0 0 = 3 ∧ marginV s 0 0 = 0 := by
  have e : failedE s 0 0 = 3 := by
    have j : isJointM s 0 = 3 := by unfold isJointM inM; rw [h]; rfl
    unfold failedE knownM
    rw [c.ok, j, if_neg (by simp)]
    rfl
  have e2 : marginE s 0 0 = 3 := by unfold marginE; rw [e]; rfl
  exact ⟨e2, by unfold marginV; rw [e2]; rfl⟩
theorem failed_of {s : Season} (c : CheckS s) (m : mayM s = true) {j w : Nat} (hj : j < s.joints.length) (hw : w < s.heats.length) : failedE s j w = 0 ∧ failedV s j w = failedM s j w := by
  have e : failedE s j w = 0 := known_of c m (by
    intro x hx
    rcases List.mem_cons.1 hx with rfl | hx
    · unfold isJointM inM; rw [if_pos (by simp; omega)]
    · rw [List.mem_singleton.1 hx]; unfold isWeekM inM; rw [if_pos (by simp; omega)])
  exact ⟨e, by unfold failedV; rw [if_pos e]; rfl⟩
theorem small_of {s : Season} (c : CheckS s) : Small s := by
  have := c.w6; have := c.dl; have := c.j3; have := c.r5
  exact ⟨by omega, by omega, by omega, by omega⟩
end Go.Proofs.Ytndfkbapoinmkaa
/- Plain: joints in another order, and joints of one kind alone. Conditions: as each theorem states. -/
namespace Go.Wx
open Go Go.HL
/-- Two seasons whose joints of a kind are the same but for their places. -/
structure SameK (s s' : Season) (n : Int) (f : Nat → Nat) : Prop where
  hs : s'.heats = s.heats
  ds : s'.damps = s.damps
  goes : ∀ (i : Nat) j, s.joints[i]? = some j → j.kind = n → s'.joints[f i]? = some j ∧ toldW s' (f i) = toldW s i
  comes : ∀ (i' : Nat) j, s'.joints[i']? = some j → j.kind = n → ∃ i, s.joints[i]? = some j ∧ f i = i'
section
variable {s s' : Season} {n : Int} {f : Nat → Nat}
theorem SameK.surv (e : SameK s s' n f) (x : Sky) {i : Nat} {j : Joint} (hj : s.joints[i]? = some j) (hk : j.kind = n) : surv s' n x (f i) = surv s n x i := by
  obtain ⟨h1, h2⟩ := e.goes i j hj hk
  unfold Wx.surv
  rw [hj, h1, h2, e.hs]
theorem SameK.all (e : SameK s s' n f) : allSkies s' n = allSkies s n := by unfold allSkies weatherM; rw [e.hs, e.ds]
theorem SameK.okE (e : SameK s s' n f) (x : Sky) : okM s' n x = okM s n x := by
  rw [Bool.eq_iff_iff, okM_iff, okM_iff]
  constructor
  · intro h i j hj hk; rw [← e.surv x hj hk]; exact h _ _ (e.goes i j hj hk).1 hk
  · intro h i' j hj hk
    obtain ⟨i, hi, rfl⟩ := e.comes i' j hj hk
    rw [e.surv x hi hk]
    exact h _ _ hi hk
theorem SameK.skies (e : SameK s s' n f) {x : Sky} : x ∈ skM s' n ↔ x ∈ skM s n := by rw [mem_skM, mem_skM, e.all, e.okE]
theorem kindAt_some {s : Season} {i : Nat} {j : Joint} (hj : s.joints[i]? = some j) : kindAt s i = j.kind := by unfold kindAt; rw [hj]; rfl
theorem SameK.fails (e : SameK s s' n f) {i : Nat} {j : Joint} (hj : s.joints[i]? = some j) (hk : j.kind = n) : failsM s' (f i) = failsM s i := by
  unfold failsM
  rw [kindAt_some hj, kindAt_some (e.goes i j hj hk).1, hk]
  apply Nat.eq_of_testBit_eq
  intro w
  rw [Bool.eq_iff_iff, maskM_bit, maskM_bit]
  simp only [mem_flsM, e.all, e.okE, e.surv _ hj hk]
end
theorem told_ext {s s' : Season} (h6 : s.heats.length ≤ 6) (hh : s'.heats = s.heats) (hr : ∀ r ∈ s.reports, 0 ≤ r.week) (hr' : ∀ r ∈ s'.reports, 0 ≤ r.week) {i i' : Nat}
    (h : ∀ w : Nat, (∀ r ∈ s'.reports, r.joint = (i' : Int) → r.failed = decide ((w : Int) ≤ r.week)) ↔ (∀ r ∈ s.reports, r.joint = (i : Int) → r.failed = decide ((w : Int) ≤ r.week))) : toldW s' i' = toldW s i := by
  have h6' : s'.heats.length ≤ 6 := by rw [hh]; exact h6
  apply Nat.eq_of_testBit_eq
  intro w
  by_cases hw : w < 64
  · rw [toldW_bit s' h6' hr' i' w hw, toldW_bit s h6 hr i w hw, hh]
    congr 1
    rw [Bool.eq_iff_iff, List.all_eq_true, List.all_eq_true]
    have hb : ∀ (r : Seen) (k : Nat), (!decide (r.joint = (k : Int)) || r.failed == decide ((w : Int) ≤ r.week)) = true ↔ (r.joint = (k : Int) → r.failed = decide ((w : Int) ≤ r.week)) := by
      intro r k
      by_cases hk : r.joint = (k : Int) <;> simp [hk]
    simp only [hb]
    exact h w
  · have h1 : toldW s' i' < 2 ^ w := Nat.lt_of_lt_of_le (toldW_lt s' h6' i') (Nat.pow_le_pow_right (by omega) (by omega))
    have h2 : toldW s i < 2 ^ w := Nat.lt_of_lt_of_le (toldW_lt s h6 i) (Nat.pow_le_pow_right (by omega) (by omega))
    rw [Nat.testBit_lt_two_pow h1, Nat.testBit_lt_two_pow h2]
theorem checkSeen_iff {s : Season} {r : Seen} : checkSeenM s r = 0 ↔ 0 ≤ r.joint ∧ r.joint < s.joints.length ∧ 0 ≤ r.week ∧ r.week < s.heats.length := by
  unfold checkSeenM inM
  constructor
  · intro h
    split at h
    · cases h
    · rename_i q1
      split at h
      · cases h
      · rename_i q2
        simp only [Bool.not_eq_true, Bool.not_eq_false', Bool.and_eq_true, decide_eq_true_eq] at q1 q2
        omega
  · intro h
    rw [if_neg (by simp; omega), if_neg (by simp; omega)]
/-- Numbers from 0 on in another order. -/
structure Order (o : List Int) (n : Nat) : Prop where
  len : o.length = n
  bd : ∀ x ∈ o, 0 ≤ x ∧ x < n
  inj : ∀ (i k : Nat), i < n → k < n → o[i]? = o[k]? → i = k
theorem Order.at' {o : List Int} {n : Nat} (O : Order o n) {i : Nat} (hi : i < n) : ∃ k : Nat, o[i]? = some (k : Int) ∧ k < n := by
  have hl : i < o.length := by rw [O.len]; exact hi
  have := O.bd o[i] (List.getElem_mem hl)
  exact ⟨o[i].toNat, by rw [List.getElem?_eq_getElem hl]; congr 1; omega, by omega⟩
theorem inj_surj : ∀ (n : Nat) (f : Nat → Nat), (∀ i, i < n → f i < n) → (∀ i k, i < n → k < n → f i = f k → i = k) → ∀ y, y < n → ∃ i, i < n ∧ f i = y := by
  intro n f hf hi y hy
  have nd : ((List.range n).map f).Nodup := by
    rw [List.nodup_iff_pairwise_ne, List.pairwise_map]
    refine List.Pairwise.imp_of_mem ?_ (List.nodup_range (n := n))
    intro a b ha hb hne e
    exact hne (hi a b (by simpa using ha) (by simpa using hb) e)
  apply Classical.byContradiction
  intro hno
  have h2 : (y :: (List.range n).map f).Nodup := by
    rw [List.nodup_cons]
    refine ⟨fun hm => ?_, nd⟩
    obtain ⟨i, hi1, hi2⟩ := List.mem_map.1 hm
    exact hno ⟨i, by simpa using hi1, hi2⟩
  have h3 := nodup_len n _ h2 (by
    intro x hx
    rcases List.mem_cons.1 hx with rfl | hx
    · exact hy
    · obtain ⟨i, hi1, hi2⟩ := List.mem_map.1 hx
      rw [← hi2]
      exact hf i (by simpa using hi1))
  simp at h3
  omega
/-- Where a joint goes. -/
def ordN (o : List Int) (i : Nat) : Nat := (o.getD i 0).toNat
theorem Order.ordN {o : List Int} {n : Nat} (O : Order o n) {i : Nat} (hi : i < n) : o[i]? = some ((ordN o i : Nat) : Int) ∧ Wx.ordN o i < n := by
  obtain ⟨k, h1, h2⟩ := O.at' hi
  unfold Wx.ordN
  rw [List.getD_eq_getElem?_getD, h1]
  simpa using h2
theorem Order.ordN_inj {o : List Int} {n : Nat} (O : Order o n) {i k : Nat} (hi : i < n) (hk : k < n) (h : Wx.ordN o i = Wx.ordN o k) : i = k := by
  refine O.inj i k hi hk ?_
  rw [(O.ordN hi).1, (O.ordN hk).1, h]
def moved (o : List Int) (r : Seen) : Seen := { r with joint := o.getD r.joint.toNat 0 }
/-- The joints of a season in another order. -/
structure Moved (s x : Season) (o : List Int) : Prop where
  ord : Order o s.joints.length
  hs : x.heats = s.heats
  ds : x.damps = s.damps
  jl : x.joints.length = s.joints.length
  js : ∀ i, i < s.joints.length → x.joints[ordN o i]? = s.joints[i]?
  rs : x.reports = s.reports.map (moved o)
theorem Moved.check {s x : Season} {o : List Int} (M : Moved s x o) (c : CheckS s) : CheckS x := by
  refine ⟨by rw [M.hs]; exact c.w1, by rw [M.hs]; exact c.w6, by rw [M.hs, M.ds]; exact c.dl, by rw [M.hs]; exact c.h, by rw [M.ds]; exact c.d, by rw [M.jl]; exact c.j3, fun j hj => ?_, by rw [M.rs, List.length_map]; exact c.r5, fun r hr => ?_⟩
  · obtain ⟨i', hi'⟩ := List.mem_iff_getElem?.1 hj
    have hl := (List.getElem?_eq_some_iff.1 hi').1
    rw [M.jl] at hl
    obtain ⟨i, hi, e⟩ := inj_surj s.joints.length (ordN o) (fun i h => (M.ord.ordN h).2) (fun i k h1 h2 => M.ord.ordN_inj h1 h2) i' hl
    have := M.js i hi
    rw [e, hi'] at this
    exact c.j j (List.mem_of_getElem? this.symm)
  · rw [M.rs] at hr
    obtain ⟨q, hq, rfl⟩ := List.mem_map.1 hr
    have := checkSeen_iff.1 (c.r q hq)
    have h2 := (M.ord.ordN (i := q.joint.toNat) (by omega))
    refine checkSeen_iff.2 ?_
    rw [M.jl, M.hs]
    have e : (moved o q).joint = (ordN o q.joint.toNat : Nat) := by
      show o.getD q.joint.toNat 0 = _
      rw [List.getD_eq_getElem?_getD, h2.1]
      rfl
    have e2 : (moved o q).week = q.week := rfl
    rw [e, e2]
    omega
theorem Moved.same {s x : Season} {o : List Int} (M : Moved s x o) (c : CheckS s) (n : Int) : SameK s x n (ordN o) := by
  refine ⟨M.hs, M.ds, fun i j hj hk => ?_, fun i' j hj hk => ?_⟩
  · have hi := (List.getElem?_eq_some_iff.1 hj).1
    refine ⟨by rw [M.js i hi]; exact hj, ?_⟩
    refine told_ext c.w6 M.hs (fun r hr => (checkSeen_iff.1 (c.r r hr)).2.2.1) (fun r hr => (checkSeen_iff.1 ((M.check c).r r hr)).2.2.1) fun w => ?_
    have key : ∀ r ∈ s.reports, ((moved o r).joint = (ordN o i : Nat) ↔ r.joint = (i : Int)) := by
      intro r hr
      have hc := checkSeen_iff.1 (c.r r hr)
      have h2 := (M.ord.ordN (i := r.joint.toNat) (by omega))
      have e : (moved o r).joint = (ordN o r.joint.toNat : Nat) := by
        show o.getD r.joint.toNat 0 = _
        rw [List.getD_eq_getElem?_getD, h2.1]
        rfl
      rw [e]
      constructor
      · intro h
        have := M.ord.ordN_inj (i := r.joint.toNat) (k := i) (by omega) hi (by omega)
        omega
      · intro h
        rw [show r.joint.toNat = i from by omega]
    rw [M.rs]
    constructor
    · intro h r hr hj2
      exact h (moved o r) (List.mem_map.2 ⟨r, hr, rfl⟩) ((key r hr).2 hj2)
    · intro h r' hr' hj2
      obtain ⟨r, hr, rfl⟩ := List.mem_map.1 hr'
      exact h r hr ((key r hr).1 hj2)
  · have hl := (List.getElem?_eq_some_iff.1 hj).1
    rw [M.jl] at hl
    obtain ⟨i, hi, e⟩ := inj_surj s.joints.length (ordN o) (fun i h => (M.ord.ordN h).2) (fun i k h1 h2 => M.ord.ordN_inj h1 h2) i' hl
    exact ⟨i, by rw [← M.js i hi, e]; exact hj, e⟩
/-- How many joints of a kind come before one. -/
def placeN (s : Season) (n : Int) (i : Nat) : Nat := ((s.joints.take i).filter fun j => decide (j.kind = n)).length
theorem filt_goes {α : Type} (p : α → Bool) : ∀ (l : List α) (i : Nat) (x : α), l[i]? = some x → p x = true → (l.filter p)[((l.take i).filter p).length]? = some x
  | [], i, x, h, _ => by simp at h
  | y :: l, 0, x, h, hp => by
    simp at h
    subst h
    simp [hp]
  | y :: l, i + 1, x, h, hp => by
    have ih := filt_goes p l i x (by simpa using h) hp
    rw [List.take_succ_cons, List.filter_cons, List.filter_cons]
    split
    · simpa using ih
    · exact ih
theorem filt_comes {α : Type} (p : α → Bool) : ∀ (l : List α) (k : Nat) (x : α), (l.filter p)[k]? = some x → ∃ i, l[i]? = some x ∧ ((l.take i).filter p).length = k
  | [], k, x, h => by simp at h
  | y :: l, k, x, h => by
    by_cases hp : p y = true
    · rw [List.filter_cons_of_pos hp] at h
      cases k with
      | zero => exact ⟨0, by simpa using h, by simp⟩
      | succ k =>
        obtain ⟨i, h1, h2⟩ := filt_comes p l k x (by simpa using h)
        exact ⟨i + 1, by simpa using h1, by rw [List.take_succ_cons, List.filter_cons_of_pos hp, List.length_cons, h2]⟩
    · rw [List.filter_cons_of_neg hp] at h
      obtain ⟨i, h1, h2⟩ := filt_comes p l k x h
      exact ⟨i + 1, by simpa using h1, by rw [List.take_succ_cons, List.filter_cons_of_neg hp, h2]⟩
theorem filt_mono {α : Type} (p : α → Bool) (l : List α) {i k : Nat} {x : α} (h : i < k) (hx : l[i]? = some x) (hp : p x = true) : ((l.take i).filter p).length < ((l.take k).filter p).length := by
  have hi := (List.getElem?_eq_some_iff.1 hx).1
  have h1 : l.take k = l.take (i + 1) ++ (l.take k).drop (i + 1) := by
    have := (List.take_append_drop (i + 1) (l.take k)).symm
    rw [List.take_take, Nat.min_eq_left (by omega)] at this
    exact this
  rw [h1, List.filter_append, List.length_append, take_snoc hi, List.filter_append, List.length_append]
  have : l[i] = x := by rw [List.getElem?_eq_getElem hi] at hx; simpa using hx
  rw [this]
  simp [hp]
  omega
/-- The joints of one kind alone, and the reports on them. -/
def alone (s : Season) (n : Int) : Season :=
  ⟨s.heats, s.damps, s.joints.filter fun j => decide (j.kind = n), (s.reports.filter fun r => decide (kindAt s r.joint.toNat = n)).map fun r => { r with joint := (placeN s n r.joint.toNat : Nat) }⟩
theorem place_inj {s : Season} {n : Int} {i k : Nat} {a b : Joint} (ha : s.joints[i]? = some a) (hb : s.joints[k]? = some b) (ka : a.kind = n) (kb : b.kind = n) (h : placeN s n i = placeN s n k) : i = k := by
  unfold placeN at h
  rcases Nat.lt_trichotomy i k with h1 | h1 | h1
  · have := filt_mono (fun j : Joint => decide (j.kind = n)) s.joints h1 ha (by simpa using ka); omega
  · exact h1
  · have := filt_mono (fun j : Joint => decide (j.kind = n)) s.joints h1 hb (by simpa using kb); omega
theorem alone_check {s : Season} (c : CheckS s) (n : Int) : CheckS (alone s n) := by
  refine ⟨c.w1, c.w6, c.dl, c.h, c.d, Nat.le_trans (List.length_filter_le _ _) c.j3, fun j hj => c.j j (List.mem_filter.1 hj).1, ?_, fun r hr => ?_⟩
  · show (List.map _ _).length ≤ 5
    rw [List.length_map]
    exact Nat.le_trans (List.length_filter_le _ _) c.r5
  · obtain ⟨q, hq, rfl⟩ := List.mem_map.1 hr
    obtain ⟨hq1, hq2⟩ := List.mem_filter.1 hq
    have hc := checkSeen_iff.1 (c.r q hq1)
    have hj : s.joints[q.joint.toNat]? = some (s.joints[q.joint.toNat]'(by omega)) := List.getElem?_eq_getElem (by omega)
    rw [decide_eq_true_eq, kindAt_some hj] at hq2
    have h1 := filt_goes (fun j : Joint => decide (j.kind = n)) s.joints _ _ hj (by simpa using hq2)
    have h2 := (List.getElem?_eq_some_iff.1 h1).1
    refine checkSeen_iff.2 ⟨Int.natCast_nonneg _, ?_, hc.2.2.1, hc.2.2.2⟩
    show ((placeN s n q.joint.toNat : Nat) : Int) < ((s.joints.filter fun j => decide (j.kind = n)).length : Int)
    unfold placeN
    omega
theorem alone_same {s : Season} (c : CheckS s) (n : Int) : SameK s (alone s n) n (placeN s n) := by
  refine ⟨rfl, rfl, fun i j hj hk => ⟨filt_goes _ s.joints i j hj (by simpa using hk), ?_⟩, fun k j hj hk => filt_comes _ s.joints k j hj⟩
  refine told_ext (s' := alone s n) c.w6 rfl (fun r hr => (checkSeen_iff.1 (c.r r hr)).2.2.1) (fun r hr => (checkSeen_iff.1 ((alone_check c n).r r hr)).2.2.1) fun w => ?_
  constructor
  · intro h r hr hj2
    refine h { r with joint := (placeN s n r.joint.toNat : Nat) } (List.mem_map.2 ⟨r, List.mem_filter.2 ⟨hr, ?_⟩, rfl⟩) (by rw [hj2]; simp)
    rw [hj2, Int.toNat_natCast, kindAt_some hj]
    simpa using hk
  · intro h r' hr' hj2
    obtain ⟨r, hr, rfl⟩ := List.mem_map.1 hr'
    obtain ⟨hr1, hr2⟩ := List.mem_filter.1 hr
    have hc := checkSeen_iff.1 (c.r r hr1)
    have hj3 : s.joints[r.joint.toNat]? = some (s.joints[r.joint.toNat]'(by omega)) := List.getElem?_eq_getElem (by omega)
    rw [decide_eq_true_eq, kindAt_some hj3] at hr2
    have := place_inj hj3 hj hr2 hk (by dsimp only at hj2; omega)
    exact h r hr1 (by omega)
theorem alone_may {s : Season} (c : CheckS s) (hm : mayM s = true) {n : Int} (hn : n = 1 ∨ n = 2) : mayM (alone s n) = true := by
  obtain ⟨h1, h2⟩ := mayM_iff.1 hm
  have other : ∀ m, m ≠ n → ∃ x, x ∈ skM (alone s n) m := by
    intro m hmn
    obtain ⟨x, hx⟩ := some_sky (alone_check c n) m
    refine ⟨x, mem_skM.2 ⟨hx, okM_iff.2 fun i j hj hk => ?_⟩⟩
    have := (List.mem_filter.1 (List.mem_of_getElem? hj)).2
    rw [decide_eq_true_eq] at this
    exact absurd (hk.symm.trans this) hmn
  have own : ∀ m, m = n → (∃ x, x ∈ skM s m) → ∃ x, x ∈ skM (alone s n) m := by
    rintro m rfl ⟨x, hx⟩
    exact ⟨x, (alone_same c m).skies.2 hx⟩
  refine mayM_iff.2 ⟨?_, ?_⟩
  · by_cases h : (1 : Int) = n
    · exact own 1 h h1
    · exact other 1 h
  · by_cases h : (2 : Int) = n
    · exact own 2 h h2
    · exact other 2 h
theorem Moved.may {s x : Season} {o : List Int} (M : Moved s x o) (c : CheckS s) (hm : mayM s = true) : mayM x = true := by
  obtain ⟨⟨a, ha⟩, ⟨b, hb⟩⟩ := mayM_iff.1 hm
  exact mayM_iff.2 ⟨⟨a, (M.same c 1).skies.2 ha⟩, ⟨b, (M.same c 2).skies.2 hb⟩⟩
end Go.Wx
/- Plain: elements changed in place; an order that is made; joints moved. Conditions: as each theorem states. -/
namespace Go.Wx
open Go Go.HL
theorem wrL_mid (a c : List Value) : ∀ (vs b : List Value) (j : Nat), j + vs.length ≤ b.length → wrL (a ++ b ++ c) (a.length + j) vs = a ++ wrL b j vs ++ c
  | [], b, j, _ => rfl
  | v :: vs, b, j, h => by
    rw [List.length_cons] at h
    have hj : j < b.length := by omega
    have e : (a ++ b ++ c).set (a.length + j) v = a ++ b.set j v ++ c := by
      rw [List.append_assoc, List.set_append_right _ _ (by omega), Nat.add_sub_cancel_left, List.set_append_left _ _ hj, List.append_assoc]
    show wrL ((a ++ b ++ c).set (a.length + j) v) (a.length + j + 1) vs = _
    rw [e, Nat.add_assoc, wrL_mid a c vs (b.set j v) (j + 1) (by rw [List.length_set]; omega)]
    rfl
section
variable {α : Type} {enc : α → List Value} {m : Nat} (hm : ∀ x, (enc x).length = m)
include hm
/-- A part of an element, written in place. -/
theorem flat_wr {l : List α} {k j : Nat} {vs : List Value} {x : α} (hk : k < l.length) (hj : j + vs.length ≤ m) (hx : wrL (enc l[k]) j vs = enc x) (junk : List Value) : wrL (l.flatMap enc ++ junk) (k * m + j) vs = (l.set k x).flatMap enc ++ junk := by
  have e : l.flatMap enc ++ junk = (l.take k).flatMap enc ++ enc l[k] ++ ((l.drop (k + 1)).flatMap enc ++ junk) := by
    have h1 : l = l.take k ++ l[k] :: l.drop (k + 1) := by rw [← List.drop_eq_getElem_cons hk, List.take_append_drop]
    have h2 : l.flatMap enc = (l.take k ++ l[k] :: l.drop (k + 1)).flatMap enc := congrArg (fun z => z.flatMap enc) h1
    rw [h2, List.flatMap_append, List.flatMap_cons]
    simp only [List.append_assoc]
  have e2 : (l.set k x).flatMap enc ++ junk = (l.take k).flatMap enc ++ enc x ++ ((l.drop (k + 1)).flatMap enc ++ junk) := by
    rw [List.set_eq_take_append_cons_drop, if_pos hk]
    simp [List.flatMap_append]
  have hl : ((l.take k).flatMap enc).length = k * m := by rw [flat_len (fun y _ => hm y), List.length_take, Nat.min_eq_left (Nat.le_of_lt hk)]
  rw [e, e2, ← hl, wrL_mid _ _ _ _ _ (by rw [hm]; exact hj), hx]
theorem flat_at {l : List α} {k j : Nat} {x : α} {v : Value} (hk : l[k]? = some x) (hv : (enc x)[j]? = some v) (junk : List Value) : (l.flatMap enc ++ junk)[k * m + j]? = some v := by
  have := flat_get enc m l (fun y _ => hm y) k x hk j v hv
  rw [List.getElem?_append_left (List.getElem?_eq_some_iff.1 this).1]
  exact this
end
theorem intM (x : Int) : (intC x).length = 1 := rfl
theorem jointM9 (x : Joint) : (jointC x).length = 9 := rfl
theorem seenM3 (x : Seen) : (seenC x).length = 3 := rfl
theorem rgM2 (x : Rg) : (rgC x).length = 2 := rfl
/-- The first i places hold the numbers below i, in some order. -/
structure MixP (l : List Int) (i : Nat) : Prop where
  bd : ∀ m, m < i → ∃ v : Int, l[m]? = some v ∧ 0 ≤ v ∧ v < i
  inj : ∀ m m' : Nat, m < i → m' < i → l[m]? = l[m']? → m = m'
theorem MixP.zero (l : List Int) : MixP l 0 := ⟨fun m h => absurd h (Nat.not_lt_zero m), fun m _ h => absurd h (Nat.not_lt_zero m)⟩
def mixS (l : List Int) (i k : Nat) : List Int := (l.set i (l.getD k 0)).set k (i : Int)
theorem mixS_len (l : List Int) (i k : Nat) : (mixS l i k).length = l.length := by simp [mixS]
theorem mixS_get {l : List Int} {i k : Nat} (hi : i < l.length) (hk : k ≤ i) (m : Nat) : (mixS l i k)[m]? = if m = k then some (i : Int) else if m = i then l[k]? else l[m]? := by
  unfold mixS
  have hkl : k < l.length := by omega
  rw [List.getElem?_set, List.length_set]
  by_cases h1 : k = m
  · subst h1
    simp [hkl]
  · rw [if_neg h1, if_neg (fun e => h1 e.symm), List.getElem?_set]
    by_cases h2 : i = m
    · subst h2
      simp [hi, List.getD_eq_getElem?_getD, List.getElem?_eq_getElem hkl]
    · rw [if_neg h2, if_neg (fun e => h2 e.symm)]
theorem MixP.step {l : List Int} {i k : Nat} (P : MixP l i) (hi : i < l.length) (hk : k ≤ i) : MixP (mixS l i k) (i + 1) := by
  have gk : k < i → ∃ v : Int, l[k]? = some v ∧ 0 ≤ v ∧ v < i := fun h => P.bd k h
  constructor
  · intro m hm
    rw [mixS_get hi hk]
    by_cases h1 : m = k
    · rw [if_pos h1]; exact ⟨i, rfl, by omega, by omega⟩
    · rw [if_neg h1]
      by_cases h2 : m = i
      · rw [if_pos h2]
        obtain ⟨v, e, a, b⟩ := gk (by omega)
        exact ⟨v, e, a, by omega⟩
      · rw [if_neg h2]
        obtain ⟨v, e, a, b⟩ := P.bd m (by omega)
        exact ⟨v, e, a, by omega⟩
  · have val : ∀ m, m < i + 1 → ∃ v : Int, (mixS l i k)[m]? = some v ∧ (m ≠ k → v < i) ∧ (m = k → v = i) := by
      intro m hm
      rw [mixS_get hi hk]
      by_cases h1 : m = k
      · rw [if_pos h1]; exact ⟨i, rfl, fun h => absurd h1 h, fun _ => rfl⟩
      · rw [if_neg h1]
        by_cases h2 : m = i
        · rw [if_pos h2]
          obtain ⟨v, e, a, b⟩ := gk (by omega)
          exact ⟨v, e, fun _ => b, fun h => absurd h h1⟩
        · rw [if_neg h2]
          obtain ⟨v, e, a, b⟩ := P.bd m (by omega)
          exact ⟨v, e, fun _ => b, fun h => absurd h h1⟩
    intro m m' hm hm' e
    obtain ⟨v, e1, a1, b1⟩ := val m hm
    obtain ⟨v', e2, a2, b2⟩ := val m' hm'
    have hv : v = v' := by rw [e1, e2] at e; simpa using e
    by_cases h1 : m = k
    · by_cases h2 : m' = k
      · omega
      · have := a2 h2; have := b1 h1; omega
    · by_cases h2 : m' = k
      · have := a1 h1; have := b2 h2; omega
      · rw [mixS_get hi hk, mixS_get hi hk, if_neg h1, if_neg h2] at e
        by_cases h3 : m = i
        · by_cases h4 : m' = i
          · omega
          · rw [if_pos h3, if_neg h4] at e
            have := P.inj k m' (by omega) (by omega) e
            omega
        · by_cases h4 : m' = i
          · rw [if_neg h3, if_pos h4] at e
            have := P.inj m k (by omega) (by omega) e
            omega
          · rw [if_neg h3, if_neg h4] at e
            exact P.inj m m' (by omega) (by omega) e
theorem MixP.order {l : List Int} {n : Nat} (P : MixP l n) (hl : l.length = n) : Order l n := by
  refine ⟨hl, fun x hx => ?_, P.inj⟩
  obtain ⟨i, hi⟩ := List.mem_iff_getElem?.1 hx
  have := (List.getElem?_eq_some_iff.1 hi).1
  obtain ⟨v, e, a, b⟩ := P.bd i (by omega)
  rw [hi] at e
  cases e
  exact ⟨a, b⟩
/-- The first i joints laid at their new places. -/
def movJ (o : List Int) (js : List Joint) : Nat → List Joint
  | 0 => js
  | i + 1 => (movJ o js i).set (ordN o i) (js.getD i default)
theorem movJ_len (o : List Int) (js : List Joint) : ∀ i, (movJ o js i).length = js.length
  | 0 => rfl
  | i + 1 => by rw [movJ, List.length_set]; exact movJ_len o js i
theorem movJ_at {o : List Int} {js : List Joint} (O : Order o js.length) : ∀ i, i ≤ js.length → ∀ k, k < i → (movJ o js i)[ordN o k]? = js[k]?
  | 0, _, k, h => absurd h (Nat.not_lt_zero k)
  | i + 1, hi, k, h => by
    have hil : i < js.length := by omega
    have hkl : k < js.length := by omega
    rw [movJ, List.getElem?_set]
    by_cases hk : k = i
    · subst hk
      rw [if_pos rfl, if_pos (by rw [movJ_len]; exact (O.ordN hil).2), List.getD_eq_getElem?_getD, List.getElem?_eq_getElem hil]
      rfl
    · rw [if_neg (fun e => hk (O.ordN_inj hkl hil e.symm))]
      exact movJ_at O i (by omega) k (by omega)
theorem moved_of {s : Season} {o : List Int} (O : Order o s.joints.length) : Moved s ⟨s.heats, s.damps, movJ o s.joints s.joints.length, s.reports.map (moved o)⟩ o :=
  ⟨O, rfl, rfl, movJ_len _ _ _, fun i hi => movJ_at O _ (Nat.le_refl _) i hi, rfl⟩
end Go.Wx
/- Walks: an order; copies of seasons. Conditions: as each theorem states. -/
namespace Go.Proofs.Ytndfkbapoinmkaa
open Go Go.HL Go.Proofs Go.Wx
set_option maxRecDepth 100000
theorem zeros_int (n : Nat) : ((List.replicate n (0 : Int)).flatMap intC) = List.replicate n (.int .i64 0) := by
  induction n with
  | zero => rfl
  | succ n ih => rw [List.replicate_succ, List.flatMap_cons, ih, List.replicate_succ]; rfl
theorem zeros_map (n : Nat) : ((List.range (n * 1)).map fun i => [Value.int .i64 0][i % 1]!) = List.replicate n (.int .i64 0) := by
  rw [Nat.mul_one]
  apply List.ext_getElem?
  intro i
  rw [List.getElem?_map, List.getElem?_replicate]
  by_cases hi : i < n
  · rw [List.getElem?_range hi, if_pos hi]
    simp [Nat.mod_one]
  · rw [List.getElem?_eq_none (by simpa using hi), if_neg hi]; rfl
theorem Mix_ok (b x n : Nat) (hn : n < 2 ^ 20) (h : AH) : FnM Try.prog (.func (.func 35) #[] ([] : List Value).toArray) [.pointer (some ⟨b, 0, none⟩), .int .i64 n] h [some (b, .cells #[.int .u64 (x : Int)] 95 (0, 0))]
    (fun v h' M' => ∃ (x' : Nat) (o : List Int), M' = [some (b, .cells #[.int .u64 (x' : Int)] 95 (0, 0))] ∧ SlR h' 1 intC o v ∧ Order o n) := by
  refine fnM_body rfl rfl Try.func35 rfl Try.ntmps35 rfl ?_
  refine xp_seq ?_
  refine xp_region rfl ?_
  refine op_pure (pv_assign (v := .slice _ _ _) rfl) ?_
  refine xp_seq ?_
  refine xp_region rfl ?_
  refine op_pure (pv_move (v := .int .i64 _) rfl) ?_
  refine op_pure (pv_max rfl rfl) ?_
  refine op_makeSlice (len := n) (cap := n) (zc := [.int .i64 0]) rfl rfl (by omega) (by omega) rfl rfl rfl rfl rfl (by omega) (by omega) rfl fun o ho => ?_
  refine wp_norm [_, _] rfl ?_
  have e0 : (List.replicate n (0 : Int)).flatMap intC ++ [] = (List.range (n * 1)).map fun i => [Value.int .i64 0][i % 1]! := by rw [List.append_nil, zeros_int, zeros_map]
  refine op_pure (pv_assign (v := .slice _ _ _) rfl) ?_
  refine xp_seq ?_
  refine xp_seq ?_
  refine xp_region rfl ?_
  refine op_pure (pv_assign (v := .int .i64 _) rfl) ?_
  refine xp_block ?_
  refine xp_loopL [6, 7, 11, 12, 13, 14, 15, 16, 17, 18, 19, 20, 21, 22, 23, 24, 25, 26, 27, 28, 29] 2 (α := Nat × Nat × List Int) (fun ⟨i, y, l⟩ => [(6, .int .i64 i)]) (fun ⟨i, y, l⟩ L => (L.set 0 (some (b, .cells #[.int .u64 (y : Int)] 95 (0, 0)))).set 1 (some (o, .cells (l.flatMap intC ++ []).toArray 3 (0, 0)))) (fun ⟨i, y, l⟩ h_i => i ≤ n ∧ l.length = n ∧ MixP l i) (fun ⟨i, y, l⟩ => n - i) ((0, x, List.replicate n 0)) ⟨rfl, trivial⟩ (by exact congrArg (fun z : List Value => [some (b, Obj.cells #[.int .u64 (x : Int)] 95 (0, 0)), some (o, Obj.cells z.toArray 3 (0, 0))]) e0) (⟨Nat.zero_le _, by simp, MixP.zero _⟩) ?_
  rintro ⟨i, y, l⟩ T1 h_i E_i J_i
  refine goes_norm [_, _] rfl ?_
  obtain ⟨K1, K2, K3⟩ := J_i
  refine xp_seq ?_
  refine xp_seq ?_
  refine xp_region rfl ?_
  refine op_pure (pv_move (v := .int .i64 _) rfl) ?_
  refine op_pure (pv_move (v := .int .i64 _) rfl) ?_
  refine op_pure (pv_of (v := .bool _) rfl) ?_
  refine xp_cond rfl (fun ht => ?_) (fun ht => ?_)
  · skip
    have hin : i < n := ltI ht
    have hil : i < l.length := by omega
    refine xp_skip ?_
    refine xp_seq ?_
    refine xp_block ?_
    refine xp_seq ?_
    refine xp_region rfl ?_
    refine op_pure (pv_move (v := .pointer (some ⟨b, 0, none⟩)) rfl) ?_
    refine op_pure (pv_move (v := .int .i64 _) rfl) ?_
    refine op_fnMM [] [_] [_] (vs := [.pointer _, .int .i64 _]) rfl rfl rfl ((Upto_ok b y i (by omega) h_i)) ?_
    rintro _ h2 _ E2 ⟨y2, k, rfl, rfl, k1, k2⟩
    refine wp_norm [_, _] rfl ?_
    obtain ⟨q, rfl⟩ : ∃ q : Nat, k = q := ⟨k.toNat, by omega⟩
    have hq : q ≤ i := by omega
    have hql : q < l.length := by omega
    have hlq : l[q]? = some (l.getD q 0) := by rw [List.getD_eq_getElem?_getD, List.getElem?_eq_getElem hql]; rfl
    refine op_pure (pv_assign (v := .int .i64 _) rfl) ?_
    refine xp_seq ?_
    refine xp_region rfl ?_
    refine op_pure (pv_move (v := .slice _ _ _) rfl) ?_
    refine op_pure (pv_move (v := .int .i64 _) rfl) ?_
    refine op_pure (pv_move (v := .slice _ _ _) rfl) ?_
    refine op_pure (pv_move (v := .int .i64 _) rfl) ?_
    refine op_pure (pv_index rfl rfl rfl rfl (by omega) (by omega)) ?_
    refine op_loadP 1 (v := .int .i64 (l.getD q 0)) (off := 0 + (q : Int).toNat * 1) rfl rfl rfl (by rw [show 0 + (q : Int).toNat * 1 = q * 1 + 0 from by omega, List.getElem?_toArray]; exact flat_at (j := 0) (v := .int .i64 (l.getD q 0)) intM hlq rfl ([] : List Value)) ?_
    refine op_pure (pv_index rfl rfl rfl rfl (by omega) (by omega)) ?_
    refine op_storeP 1 (m := 1) (v := .int .i64 _) (vs := [.int .i64 (l.getD q 0)]) (off := 0 + (i : Int).toNat * 1) (c' := (l.set i (l.getD q 0)).flatMap intC ++ []) rfl rfl rfl rfl rfl rfl (Nat.ble_eq_true_of_le (by rw [List.length_append, flat_len (m := 1) (fun _ _ => rfl)]; omega)) rfl (by rw [show 0 + (i : Int).toNat * 1 = i * 1 + 0 from by omega]; exact flat_wr intM hil (by simp) rfl []) ?_
    refine wp_norm [_, _] rfl ?_
    refine xp_region rfl ?_
    refine op_pure (pv_move (v := .slice _ _ _) rfl) ?_
    refine op_pure (pv_move (v := .int .i64 _) rfl) ?_
    refine op_pure (pv_move (v := .int .i64 _) rfl) ?_
    refine op_pure (pv_index rfl rfl rfl rfl (by omega) (by omega)) ?_
    refine op_storeP 1 (m := 1) (v := .int .i64 _) (vs := [.int .i64 (i : Int)]) (off := 0 + (q : Int).toNat * 1) (c' := (mixS l i q).flatMap intC ++ []) rfl rfl rfl rfl rfl rfl (Nat.ble_eq_true_of_le (by rw [List.length_append, flat_len (m := 1) (fun _ _ => rfl), List.length_set]; omega)) rfl (by rw [show 0 + (q : Int).toNat * 1 = q * 1 + 0 from by omega]; exact flat_wr intM (l := l.set i (l.getD q 0)) (by rw [List.length_set]; exact hql) (by simp) rfl []) ?_
    refine wp_norm [_, _] rfl ?_
    refine xp_region rfl ?_
    refine op_pure (pv_move (v := .int .i64 _) rfl) ?_
    refine op_pure (pv_arith rfl (by omega)) ?_
    refine op_pure (pv_assign (v := .int .i64 _) rfl) ?_
    refine ⟨(i + 1, y2, mixS l i q), ⟨rfl, trivial⟩, rfl, rfl, (Ext.trans E_i E2), fun h3 E3 => ⟨hin, by rw [mixS_len]; exact K2, K3.step hil hq⟩, by first | omega | (dsimp only; omega), ?_⟩
    repeat (first | exact off_base _ _ _ | refine off_upd (by decide) ?_ | refine off_updL rfl ?_ | refine off_mix rfl ?_)
  · skip
    have hie : i = n := by have := geI ht; omega
    subst hie
    refine goes_pub 1 rfl ?_
    intro h3 E3 p3
    refine xp_exit ?_
    refine xp_seq ?_
    refine xp_region rfl ?_
    refine op_pure (pv_move (v := .slice _ _ _) rfl) ?_
    refine op_pure (pv_assign (v := .slice _ _ _) rfl) ?_
    refine xp_ret ?_
    refine res_list (vs := [_]) Try.results35 ⟨resV_tmp rfl rfl, trivial⟩ fun V => ?_
    obtain ⟨h9, E9, e9, V9⟩ := wl_drop [_] [_] V
    refine ⟨h9, _, e9, V9, Ext.trans (Ext.trans E_i E3) E9, y, l, rfl, ⟨some ⟨o, 0, none⟩, i, by rw [K2]; rfl, ?_⟩, K3.order K2⟩
    rw [List.append_nil] at p3
    exact (row_of_block (enc := intC) (m := 1) (fun _ _ => rfl) p3).ext E9
theorem Ranges_ok (l : List Rg) (A : Option Addr) (c : Nat) (h : AH) (R : Row h 2 rgC A l) (hl : l.length < 2 ^ 20) :
    FnM Try.prog (.func (.func 77) #[] ([] : List Value).toArray) [.slice A l.length c] h [] (fun v h' M' => ∃ a : Acc, M' = [a.p] ∧ v = .slice a.A a.n a.c ∧ AccR 51 2 (l.flatMap rgC) a) := by
  refine fnM_body rfl rfl Try.func77 rfl Try.ntmps77 rfl ?_
  refine xp_seq ?_
  refine xp_region rfl ?_
  refine op_pure (pv_assign (v := .slice _ _ _) rfl) ?_
  refine xp_seq ?_
  refine xp_region rfl ?_
  refine op_buildSlice (zc := [_, _]) (vs := []) (cs := []) rfl rfl rfl rfl rfl rfl rfl fun b3 hb3 => ?_
  refine wp_norm [_] rfl ?_
  refine op_pure (pv_move (v := .slice _ _ _) rfl) ?_
  refine op_appendR 0 accR_new rfl rfl rfl (fun V => R.2.ext (Ext.trans (Ext.refl _) (ext_wl V))) (flat_len R.1) (flat_plain rgP l) rfl rfl rfl rfl rfl rfl rfl (by omega) rfl (by rw [flat_len R.1, List.length_nil]; omega) fun a0 h1a E1a ha0 => ?_
  refine wp_norm [_] rfl ?_
  refine op_pure (pv_assign (v := .slice _ _ _) rfl) ?_
  refine xp_ret ?_
  refine res_list (vs := [_]) Try.results77 ⟨resV_tmp rfl rfl, trivial⟩ fun V => ?_
  exact ⟨_, [_], rfl, V, E1a, a0, rfl, rfl, ha0⟩
theorem CopySeason_ok (s : Season) (A0 A1 A2 A3 : Option Addr) (c0 c1 c2 c3 : Nat) (h : AH) (R : SeasonR h A0 A1 A2 A3 s) (h0 : s.heats.length < 2 ^ 20) (h1 : s.damps.length < 2 ^ 20) (h2 : s.joints.length < 2 ^ 20) (h3 : s.reports.length < 2 ^ 20) :
    FnM Try.prog (.func (.func 23) #[] ([] : List Value).toArray) [seasonV A0 A1 A2 A3 c0 c1 c2 c3 s] h [] (fun v h' M' => ∃ a0 a1 a2 a3 : Acc, M' = [a0.p, a1.p, a2.p, a3.p] ∧ v = .agg #[.slice a0.A a0.n a0.c, .slice a1.A a1.n a1.c, .slice a2.A a2.n a2.c, .slice a3.A a3.n a3.c]
      ∧ AccR 51 2 (s.heats.flatMap rgC) a0 ∧ AccR 51 2 (s.damps.flatMap rgC) a1 ∧ AccR 53 9 (s.joints.flatMap jointC) a2 ∧ AccR 56 3 (s.reports.flatMap seenC) a3) := by
  refine fnM_body rfl rfl Try.func23 rfl Try.ntmps23 rfl ?_
  refine xp_seq ?_
  refine xp_region rfl ?_
  refine op_box (v := .agg #[.slice _ _ _, .slice _ _ _, .slice _ _ _, .slice _ _ _]) (cs := [_, _, _, _]) rfl rfl fun b1 hb1 => ?_
  refine wp_norm [_] rfl ?_
  refine op_alloc (cs := [_, _, _, _]) rfl rfl fun b2 hb2 => ?_
  refine wp_norm [_, _] rfl ?_
  refine xp_seq ?_
  refine xp_dw [false, false, true, true, true, true] rfl rfl rfl ?_
  refine dw_pure (i := 0) rfl (by decide +kernel) (pv_fieldAddr rfl rfl rfl rfl 0 rfl) ?_
  refine dw_load (i := 1) rfl (by decide +kernel) ?_
  refine op_loadP 0 (v := .slice _ _ _) rfl rfl rfl rfl ?_
  refine dw_pure (i := 3) rfl (by decide +kernel) (pv_fieldAddr rfl rfl rfl rfl 1 rfl) ?_
  refine dw_load (i := 4) rfl (by decide +kernel) ?_
  refine op_loadP 0 (v := .slice _ _ _) rfl rfl rfl rfl ?_
  refine dw_pure (i := 7) rfl (by decide +kernel) (pv_fieldAddr rfl rfl rfl rfl 2 rfl) ?_
  refine dw_load (i := 8) rfl (by decide +kernel) ?_
  refine op_loadP 0 (v := .slice _ _ _) rfl rfl rfl rfl ?_
  refine dw_pure (i := 11) rfl (by decide +kernel) (pv_fieldAddr rfl rfl rfl rfl 3 rfl) ?_
  refine dw_load (i := 12) rfl (by decide +kernel) ?_
  refine op_loadP 0 (v := .slice _ _ _) rfl rfl rfl rfl ?_
  refine dw_eff (i := 2) rfl (by decide +kernel) ?_
  refine op_fnMM [_, _] [] [] rfl rfl rfl (Ranges_ok s.heats A0 c0 h (R.heats.ext (Ext.refl _)) h0) ?_
  rintro _ g0 _ G0 ⟨a0, rfl, rfl, ha0⟩
  refine ⟨ext_wlm G0 _, ?_⟩
  refine dw_norm [_, _, _] rfl ?_
  refine dw_pure (i := 14) rfl (by decide +kernel) (pv_fieldAddr rfl rfl rfl rfl 0 rfl) ?_
  refine dw_eff (i := 5) rfl (by decide +kernel) ?_
  refine op_fnMM [_, _, _] [] [] rfl rfl rfl (Ranges_ok s.damps A1 c1 g0 (R.damps.ext G0) h1) ?_
  rintro _ g1 _ G1 ⟨a1, rfl, rfl, ha1⟩
  refine ⟨ext_wlm G1 _, ?_⟩
  refine dw_norm [_, _, _, _] rfl ?_
  refine dw_eff (i := 6) rfl (by decide +kernel) ?_
  refine op_buildSlice (zc := [_, _, _, _, _, _, _, _, _]) (vs := []) (cs := []) rfl rfl rfl rfl rfl rfl rfl fun b9 hb9 => ?_
  refine ⟨ext_newM hb9 _, ?_⟩
  refine dw_norm [_, _, _, _, _] rfl ?_
  refine dw_eff (i := 9) rfl (by decide +kernel) ?_
  refine op_appendR 4 accR_new rfl rfl rfl (fun V => R.joints.2.ext (Ext.trans (Ext.trans G0 G1) (ext_wl V))) (flat_len R.joints.1) (flat_plain jointP s.joints) rfl rfl rfl rfl rfl rfl rfl (by omega) rfl (by rw [flat_len R.joints.1, List.length_nil]; omega) fun a2 h1a E1a ha2 => ?_
  refine ⟨ext_wlm E1a _, ?_⟩
  refine dw_norm [_, _, _, _, _] rfl ?_
  refine dw_eff (i := 10) rfl (by decide +kernel) ?_
  refine op_buildSlice (zc := [_, _, _]) (vs := []) (cs := []) rfl rfl rfl rfl rfl rfl rfl fun b13 hb13 => ?_
  refine ⟨ext_newM hb13 _, ?_⟩
  refine dw_norm [_, _, _, _, _, _] rfl ?_
  refine dw_last (i := 13) rfl (by decide +kernel) (by decide +kernel) ?_
  refine op_appendR 5 accR_new rfl rfl rfl (fun V => R.reports.2.ext (Ext.trans (Ext.trans (Ext.trans G0 G1) E1a) (ext_wl V))) (flat_len R.reports.1) (flat_plain seenP s.reports) rfl rfl rfl rfl rfl rfl rfl (by omega) rfl (by rw [flat_len R.reports.1, List.length_nil]; omega) fun a3 h2a E2a ha3 => ?_
  refine dw_norm [_, _, _, _, _, _] rfl ?_
  refine dw_last (i := 15) rfl (by decide +kernel) (by decide +kernel) ?_
  refine op_storeP 0 (v := .slice _ _ _) (vs := [_]) (c' := [_, _, _, _]) rfl rfl rfl rfl rfl rfl rfl rfl rfl ?_
  refine dw_norm [_, _, _, _, _, _] rfl ?_
  refine dw_pure (i := 16) rfl (by decide +kernel) (pv_fieldAddr rfl rfl rfl rfl 1 rfl) ?_
  refine dw_last (i := 17) rfl (by decide +kernel) (by decide +kernel) ?_
  refine op_storeP 0 (v := .slice _ _ _) (vs := [_]) (c' := [_, _, _, _]) rfl rfl rfl rfl rfl rfl rfl rfl rfl ?_
  refine dw_norm [_, _, _, _, _, _] rfl ?_
  refine dw_pure (i := 18) rfl (by decide +kernel) (pv_fieldAddr rfl rfl rfl rfl 2 rfl) ?_
  refine dw_last (i := 19) rfl (by decide +kernel) (by decide +kernel) ?_
  refine op_storeP 0 (v := .slice _ _ _) (vs := [_]) (c' := [_, _, _, _]) rfl rfl rfl rfl rfl rfl rfl rfl rfl ?_
  refine dw_norm [_, _, _, _, _, _] rfl ?_
  refine dw_pure (i := 20) rfl (by decide +kernel) (pv_fieldAddr rfl rfl rfl rfl 3 rfl) ?_
  refine dw_last (i := 21) rfl (by decide +kernel) (by decide +kernel) ?_
  refine op_storeP 0 (v := .slice _ _ _) (vs := [_]) (c' := [_, _, _, _]) rfl rfl rfl rfl rfl rfl rfl rfl rfl ?_
  refine dw_norm [_, _, _, _, _, _] rfl ?_
  refine dw_end rfl ?_
  refine xp_seq ?_
  refine xp_region rfl ?_
  refine op_loadPA 0 (vs := [.slice _ _ _, .slice _ _ _, .slice _ _ _, .slice _ _ _]) rfl rfl rfl rfl rfl ?_
  refine op_storeP 1 (v := .agg #[.slice _ _ _, .slice _ _ _, .slice _ _ _, .slice _ _ _]) (vs := [_, _, _, _]) (c' := [_, _, _, _]) rfl rfl rfl rfl rfl rfl rfl rfl rfl ?_
  refine wp_norm [_, _, _, _, _, _] rfl ?_
  refine xp_ret ?_
  refine res_list (vs := [_]) Try.results23 ⟨resV_agg 1 rfl rfl rfl rfl rfl (vs := [.slice _ _ _, .slice _ _ _, .slice _ _ _, .slice _ _ _]) rfl, trivial⟩ fun V => ?_
  obtain ⟨h9, E9, e9, V9⟩ := wl_shed [_, _] [_, _, _, _] V
  exact ⟨h9, _, e9, V9, Ext.trans (Ext.trans (Ext.trans (Ext.trans G0 G1) E1a) E2a) E9, a0, a1, a2, a3, rfl, rfl, ha0, ha1, ha2, ha3⟩
end Go.Proofs.Ytndfkbapoinmkaa
/- Walks: the law on joints apart. Conditions: as each theorem states. -/
namespace Go.Proofs.Ytndfkbapoinmkaa
open Go Go.HL Go.Proofs Go.Wx Go.RowKit
set_option maxRecDepth 100000
theorem no_reports {s : Season} (c : CheckS s) (h : s.joints.length = 0) : s.reports = [] := by
  cases hr : s.reports with
  | nil => rfl
  | cons r l =>
    have := checkSeen_iff.1 (c.r r (by rw [hr]; exact List.mem_cons_self ..))
    omega
theorem flat_ne {α : Type} {enc : α → List Value} {m : Nat} {l : List α} (hm : ∀ x, (enc x).length = m) (h0 : 0 < m) (h : l ≠ []) : l.flatMap enc ≠ [] := by
  intro e
  have := flat_len (l := l) (m := m) (enc := enc) (fun x _ => hm x)
  rw [e] at this
  have hl := List.length_pos_iff.2 h
  have : 0 < l.length * m := Nat.mul_pos hl h0
  simp at *
  omega
theorem accR_some {e : TypeId} {m : Nat} {cs : List Value} {a : Acc} (r : AccR e m cs a) (hc : cs ≠ []) : ∃ b len cap junk, cs.length = len * m ∧ (cs ++ junk).length = cap * m ∧ a = ⟨some (b, .cells (cs ++ junk).toArray e (0, 0)), some ⟨b, 0, none⟩, len, cap⟩ := by
  obtain ⟨p, A, n, c⟩ := a
  rcases r with ⟨_, h, _⟩ | ⟨b, len, cap, junk, hl, ev, hpp, hj⟩
  · exact absurd h hc
  · injection ev with h1 h2 h3
    dsimp only at h1 h2 h3 hpp
    exact ⟨b, len, cap, junk, hl, hj, by rw [h1, h2, h3, hpp]⟩
theorem row_junk {α : Type} {enc : α → List Value} {m : Nat} {h : AH} {b : Nat} {l : List α} {junk : List Value} {t : TypeId} (hm : ∀ x, (enc x).length = m) (hb : h b = some (.cells (l.flatMap enc ++ junk).toArray t (0, 0))) : Row h m enc (some ⟨b, 0, none⟩) l := by
  refine ⟨fun x _ => hm x, fun _ => ⟨b, 0, rfl, fun q u hu => ?_⟩⟩
  simp only [cellA, hb, Nat.zero_add]
  have : (l.flatMap enc ++ junk)[q]? = some u := by rw [List.getElem?_append_left (List.getElem?_eq_some_iff.1 hu).1]; exact hu
  simpa using this
theorem fails_of {s : Season} (c : CheckS s) (m : mayM s = true) {j : Nat} (hj : j < s.joints.length) : failsE s j = 0 ∧ failsL s j = listM (failsM s j) := by
  have e : failsE s j = 0 := known_of c m (by
    intro x hx
    rw [List.mem_singleton.1 hx]; unfold isJointM inM; rw [if_pos (by simp; omega)])
  exact ⟨e, by unfold failsL; rw [if_pos e]; rfl⟩
theorem kind_of_check {s : Season} (c : CheckS s) {j : Nat} (hj : j < s.joints.length) : s.joints[j].kind = 1 ∨ s.joints[j].kind = 2 := (checkJointM_zero (c.j _ (List.getElem_mem hj))).2
end Go.Proofs.Ytndfkbapoinmkaa
/- Walks: how long failures are unseen. Conditions: as each theorem states. -/
namespace Go.Proofs.Ytndfkbapoinmkaa
open Go Go.HL Go.Proofs Go.Wx
set_option maxRecDepth 100000
/-- The error of the weeks in which somebody looks. -/
def lookE (n : Nat) (l : List Int) (i : Nat) : Int := if !inM (l.getD i 0) 0 ((n : Int) - 1) then 1 else if 0 < i ∧ l.getD i 0 ≤ l.getD (i - 1) 0 then 5 else 0
def looksM (n : Nat) (l : List Int) : Int := firstErr (lookE n l) (List.range l.length)
theorem looks_stop {n : Nat} {l : List Int} {i : Nat} (hi : i < l.length) (h0 : firstErr (lookE n l) ((List.range l.length).take i) = 0) (hx : lookE n l i ≠ 0) : looksM n l = lookE n l i := by
  have := firstErr_stop (f := lookE n l) (l := List.range l.length) (k := i) (by simpa using hi) h0 (by simpa using hx)
  simpa [looksM] using this
theorem looks_go {n : Nat} {l : List Int} {i : Nat} (hi : i < l.length) (h0 : firstErr (lookE n l) ((List.range l.length).take i) = 0) (hx : lookE n l i = 0) : firstErr (lookE n l) ((List.range l.length).take (i + 1)) = 0 :=
  firstErr_go (f := lookE n l) (l := List.range l.length) (k := i) (by simpa using hi) h0 (by simpa using hx)
set_option maxHeartbeats 1000000 in
theorem unseen1_ask (s : Season) (l : List Int) (hl : l.length < 2 ^ 20) (B : Option Addr) (cB : Nat) (A0 A1 A2 A3 : Option Addr) (c0 c1 c2 c3 b1 b2 : Nat) (h2 : s.heats.length < 2 ^ 40) (h : AH) (RB : Row h 1 intC B l) (e1 : h b1 = some (.cells #[.slice B l.length cB] 27 (0, 0))) (e2 : h b2 = some (.cells #[.slice A0 s.heats.length c0, .slice A1 s.damps.length c1, .slice A2 s.joints.length c2, .slice A3 s.reports.length c3] 26 (0, 0))) :
    AskT (.func (.func 108) #[] #[.pointer (some ⟨b1, 0, none⟩), .pointer (some ⟨b2, 0, none⟩)]) h (looksM s.heats.length l) := by
  intro h' E _
  refine callV_fn (caps := [.pointer (some ⟨b1, 0, none⟩), .pointer (some ⟨b2, 0, none⟩)]) rfl ?_
  refine call_body Try.func108 rfl Try.ntmps108 rfl ?_
  refine xp_seq ?_
  refine xp_region rfl ?_
  refine op_pure (pv_assign (v := .int .i64 _) rfl) ?_
  refine xp_seq ?_
  refine xp_seq ?_
  refine xp_region rfl ?_
  refine op_load (v := .slice _ _ _) rfl rfl (by simp only [cellA, E _ _ e1]; rfl) ?_
  refine op_pure (pv_len rfl rfl) ?_
  refine op_pure (pv_move (v := .int .i64 _) rfl) ?_
  refine xp_block ?_
  refine xp_loopB [2, 3, 4, 7, 8, 9, 10, 11, 12, 13, 14, 15, 16, 17, 18, 19, 20, 21, 22, 23, 24, 25, 26, 27, 28, 29, 30, 31, 32] 0 (α := Nat) (fun i => [(7, .int .i64 i)]) (fun i => _) (fun i h_i => i ≤ l.length ∧ firstErr (lookE s.heats.length l) ((List.range l.length).take i) = 0) (fun i => l.length - i) (0) ⟨rfl, trivial⟩ (rfl) (⟨Nat.zero_le _, rfl⟩) ?_
  rintro i T1 h_i E_i J_i
  refine goes_norm [] rfl ?_
  obtain ⟨K1, K2⟩ := J_i
  refine xp_seq ?_
  refine xp_region rfl ?_
  refine op_pure (pv_of (v := .bool _) rfl) ?_
  refine xp_seq ?_
  refine xp_cond rfl (fun hi => ?_) (fun hi => ?_)
  · skip
    have hil : i < l.length := ltI hi
    have hgd : l.getD i 0 = l[i] := by rw [List.getD_eq_getElem?_getD, List.getElem?_eq_getElem hil]; rfl
    obtain ⟨g, off, hB, hc⟩ := (RB.ext (Ext.trans E E_i)).at (by omega) hil
    refine xp_skip ?_
    refine xp_seq ?_
    refine xp_block ?_
    refine xp_seq ?_
    refine xp_region rfl ?_
    refine op_pure (pv_move (v := .int .i64 _) rfl) ?_
    refine op_pure (pv_indexE rfl hB rfl rfl rfl (by omega) (by omega)) ?_
    refine op_load (v := .int .i64 _) rfl rfl ((hc) 0 _ rfl) ?_
    refine op_pure (pv_assign (v := .int .i64 _) rfl) ?_
    refine op_pure (pv_assign (v := .int .i64 _) rfl) ?_
    refine xp_block ?_
    refine xp_seq ?_
    refine xp_region rfl ?_
    refine op_pure (pv_move (v := .int .i64 _) rfl) ?_
    refine op_pure (pv_fieldAddr rfl rfl rfl rfl _ rfl) ?_
    refine op_load (v := .slice _ _ _) rfl rfl (by simp only [cellA, E_i _ _ (E _ _ e2)]; rfl) ?_
    refine op_pure (pv_len rfl rfl) ?_
    refine op_pure (pv_arith rfl (by omega)) ?_
    refine op_fn (caps := []) (vs := [.int .i64 _, .int .i64 _, .int .i64 _]) rfl rfl rfl (in_ok _ _ _ h_i) ?_
    rintro _ h3 E3 rfl
    refine op_pure (pv_of (v := .bool _) rfl) ?_
    refine op_pure (pv_assign (v := .bool _) rfl) ?_
    refine xp_cond rfl (fun ht => ?_) (fun ht => ?_)
    · skip
      have hb : inM l[i] 0 ((s.heats.length : Int) - 1) = false := by
        cases hb : inM l[i] 0 ((s.heats.length : Int) - 1) with
        | false => rfl
        | true => unfold inM at hb; rw [hb] at ht; cases ht
      have hE : lookE s.heats.length l i = 1 := by unfold lookE; rw [hgd, hb]; rfl
      refine xp_seq ?_
      refine xp_region rfl ?_
      refine op_pure (pv_assign (v := .int .i64 _) rfl) ?_
      refine xp_ret ?_
      refine res_list (vs := [_]) Try.results108 ⟨resV_tmp rfl rfl, trivial⟩ fun V => ?_
      exact ⟨(Ext.trans (Ext.trans E_i E3) (ext_wl V)), intE (by rw [looks_stop hil K2 (by rw [hE]; decide), hE])⟩
    · skip
      have hb : inM l[i] 0 ((s.heats.length : Int) - 1) = true := by
        cases hb : inM l[i] 0 ((s.heats.length : Int) - 1) with
        | true => rfl
        | false => unfold inM at hb; rw [hb] at ht; cases ht
      rcases Nat.eq_zero_or_pos i with h0 | h0
      · skip
        subst h0
        have hE : lookE s.heats.length l 0 = 0 := by unfold lookE; rw [hgd, hb]; rfl
        refine xp_seq ?_
        refine xp_region rfl ?_
        refine op_pure (pv_move (v := .int .i64 _) rfl) ?_
        refine op_pure (pv_of (v := .bool _) rfl) ?_
        refine op_pure (pv_move (v := .bool _) rfl) ?_
        refine guard_no rfl rfl ?_
        refine guard_no rfl rfl ?_
        refine guard_no rfl rfl ?_
        refine guard_no rfl rfl ?_
        refine guard_no rfl rfl ?_
        refine guard_no rfl rfl ?_
        refine guard_no rfl rfl ?_
        refine op_pure (pv_pickF rfl rfl (v := .bool _) rfl) ?_
        refine op_pure (pv_assign (v := .bool _) rfl) ?_
        refine xp_condF rfl (rfl) ?_
        refine xp_skip ?_
        refine xp_region rfl ?_
        refine op_pure (pv_arith rfl (by omega)) ?_
        refine op_pure (pv_move (v := .int .i64 _) rfl) ?_
        refine ⟨0 + 1, ⟨rfl, trivial⟩, rfl, rfl, (Ext.trans E_i E3), fun h3 E3 => ⟨hil, looks_go hil K2 hE⟩, by first | omega | (dsimp only; omega), ?_⟩
        repeat (first | exact off_base _ _ _ | refine off_upd (by decide) ?_ | refine off_updL rfl ?_ | refine off_mix rfl ?_)
      · skip
        have hpos : decide ((i : Int) > 0) = true := decide_eq_true (by omega)
        have hil1 : i - 1 < l.length := by omega
        have hgd1 : l.getD (i - 1) 0 = l[i - 1] := by rw [List.getD_eq_getElem?_getD, List.getElem?_eq_getElem hil1]; rfl
        obtain ⟨g1, off1, hB1, hc1⟩ := (RB.ext (Ext.trans E E_i)).at (by omega) hil1
        have hsub : (i : Int) - 1 = ((i - 1 : Nat) : Int) := by omega
        refine xp_seq ?_
        refine xp_region rfl ?_
        refine op_pure (pv_move (v := .int .i64 _) rfl) ?_
        refine op_pure (pv_of (v := .bool _) rfl) ?_
        refine op_pure (pv_move (v := .bool _) rfl) ?_
        refine guard_yes rfl hpos ?_
        refine op_pure (pv_move (v := .int .i64 _) rfl) ?_
        refine guard_yes rfl hpos ?_
        refine op_load (v := .slice _ _ _) rfl rfl (by simp only [cellA, E3 _ _ (E_i _ _ (E _ _ e1))]; rfl) ?_
        refine guard_yes rfl hpos ?_
        refine op_pure (pv_move (v := .int .i64 _) rfl) ?_
        refine guard_yes rfl hpos ?_
        refine op_pure (pv_arith rfl (by omega)) ?_
        rw [hsub]
        refine guard_yes rfl hpos ?_
        refine op_pure (pv_indexE rfl hB1 rfl rfl rfl (by omega) (by omega)) ?_
        refine guard_yes rfl hpos ?_
        refine op_load (v := .int .i64 _) rfl rfl ((hc1.ext E3) 0 _ rfl) ?_
        refine guard_yes rfl hpos ?_
        refine op_pure (pv_of (v := .bool _) rfl) ?_
        refine op_pure (pv_pickT rfl hpos (v := .bool _) rfl) ?_
        refine op_pure (pv_assign (v := .bool _) rfl) ?_
        refine xp_cond rfl (fun hle => ?_) (fun hle => ?_)
        · skip
          have hle' : l[i] ≤ l[i - 1] := by simpa [hpos] using hle
          have hE : lookE s.heats.length l i = 5 := by unfold lookE; rw [hgd, hgd1, hb, if_neg (by simp), if_pos ⟨h0, hle'⟩]
          refine xp_seq ?_
          refine xp_region rfl ?_
          refine op_pure (pv_assign (v := .int .i64 _) rfl) ?_
          refine xp_ret ?_
          refine res_list (vs := [_]) Try.results108 ⟨resV_tmp rfl rfl, trivial⟩ fun V => ?_
          exact ⟨(Ext.trans (Ext.trans E_i E3) (ext_wl V)), intE (by rw [looks_stop hil K2 (by rw [hE]; decide), hE])⟩
        · skip
          have hle' : ¬ l[i] ≤ l[i - 1] := by simpa [hpos] using hle
          have hE : lookE s.heats.length l i = 0 := by unfold lookE; rw [hgd, hgd1, hb, if_neg (by simp), if_neg (fun e => hle' e.2)]
          refine xp_skip ?_
          refine xp_region rfl ?_
          refine op_pure (pv_arith rfl (by omega)) ?_
          refine op_pure (pv_move (v := .int .i64 _) rfl) ?_
          refine ⟨i + 1, ⟨rfl, trivial⟩, rfl, rfl, (Ext.trans E_i E3), fun h3 E3 => ⟨hil, looks_go hil K2 hE⟩, by first | omega | (dsimp only; omega), ?_⟩
          repeat (first | exact off_base _ _ _ | refine off_upd (by decide) ?_ | refine off_updL rfl ?_ | refine off_mix rfl ?_)
  · skip
    have hie : i = l.length := by have := geI hi; omega
    subst hie
    refine xp_exit ?_
    refine xp_seq ?_
    refine xp_region rfl ?_
    refine op_pure (pv_assign (v := .int .i64 _) rfl) ?_
    refine xp_ret ?_
    refine res_list (vs := [_]) Try.results108 ⟨resV_tmp rfl rfl, trivial⟩ fun V => ?_
    refine ⟨(Ext.trans E_i (ext_wl V)), intE ?_⟩
    have := K2
    rw [List.take_of_length_le (by simp)] at this
    exact this.symm
def unseenE (s : Season) (l : List Int) : Int := knownM s [looksM s.heats.length l]
def unseenV (s : Season) (l : List Int) : Int := if unseenE s l = 0 then unseenOf s.heats.length (listM (failingM s)) l else 0
set_option maxHeartbeats 1000000 in
theorem Unseen_ok (s : Season) (Sm : Small s) (l : List Int) (hl : l.length < 2 ^ 20) (B : Option Addr) (cB : Nat) (A0 A1 A2 A3 : Option Addr) (c0 c1 c2 c3 : Nat) (h : AH) (R : SeasonR h A0 A1 A2 A3 s) (RB : Row h 1 intC B l) :
    FnT Try.prog 40 #[seasonV A0 A1 A2 A3 c0 c1 c2 c3 s, .slice B l.length cB] h (fun v _ => v = .tuple #[.int .i64 (unseenV s l), .int .i64 (unseenE s l)]) := by
  by_cases he : unseenE s l = 0
  · have hk := knownM_zero he
    have SV := checkM_zero hk.1
    have hw6 := SV.b.w6
    refine call_body Try.func40 rfl Try.ntmps40 rfl ?_
    refine xp_seq ?_
    refine xp_region rfl ?_
    refine op_box (v := .agg #[.slice _ _ _, .slice _ _ _, .slice _ _ _, .slice _ _ _]) (cs := [_, _, _, _]) rfl rfl fun b2 hb2 => ?_
    refine wp_norm [_] rfl ?_
    refine op_box (v := .slice _ _ _) (cs := [_]) rfl rfl fun b3 hb3 => ?_
    refine wp_norm [_, _] rfl ?_
    refine op_pure (pv_assign (v := .int .i64 _) rfl) ?_
    refine op_pure (pv_assign (v := .int .i64 _) rfl) ?_
    refine goes_pub 0 rfl ?_
    intro h0 E0 p0
    refine goes_pub 1 rfl ?_
    intro h1 E1 p1
    refine xp_seq ?_
    refine xp_region rfl ?_
    refine op_loadA (cs := [.slice _ _ _, .slice _ _ _, .slice _ _ _, .slice _ _ _]) rfl rfl rfl rfl (cells_blk (E1 _ _ p0)) ?_
    refine op_pure (pv_makeFunc (vs := []) (ws := [_, _]) rfl rfl) ?_
    refine op_buildSlice (zc := [_]) (vs := [(0, _)]) (cs := [_]) rfl rfl rfl rfl rfl rfl rfl fun b11 hb11 => ?_
    refine wp_norm [_, _, _] rfl ?_
    refine wp_pub 2 rfl rfl ?_
    intro h2 E2 p11
    refine wp_norm [_, _, _] rfl ?_
    refine op_fn (caps := []) (vs := [.agg #[.slice _ _ _, .slice _ _ _, .slice _ _ _, .slice _ _ _], .slice _ _ _]) rfl rfl rfl (known_yes s A0 A1 A2 A3 c0 c1 c2 c3 h2 (R.ext (Ext.trans (Ext.trans E0 E1) E2)) Sm.h0 Sm.h1 Sm.h2 Sm.h3 [_] [_] _ _ (rowFn p11) rfl (by simp) (ask1 ((unseen1_ask s l hl B cB A0 A1 A2 A3 c0 c1 c2 c3 b3 b2 Sm.h0 _ (RB.ext (Ext.trans E0 E1)) p1 (E1 _ _ p0)).ext E2)) he) ?_
    rintro _ h3 E3 ⟨A, c, mf, fm, fl, A', c', mf', fm', fl', rfl, X, X'⟩
    refine op_pure (pv_move (v := .tuple #[.agg #[.slice _ _ _, .map _, .map _, .map _, .map _, .slice _ _ _, .map _, .map _, .map _, .map _], .int .i64 _]) rfl) ?_
    refine op_pure (pv_of (v := .agg #[.slice _ _ _, .map _, .map _, .map _, .map _, .slice _ _ _, .map _, .map _, .map _, .map _]) rfl) ?_
    refine op_pure (pv_of (v := .int .i64 _) rfl) ?_
    refine op_alloc (cs := [_, _, _, _, _, _, _, _, _, _]) rfl rfl fun b6 hb6 => ?_
    refine wp_norm [_, _, _, _] rfl ?_
    refine op_storeP 3 (v := .agg #[.slice _ _ _, .map _, .map _, .map _, .map _, .slice _ _ _, .map _, .map _, .map _, .map _]) (vs := [_, _, _, _, _, _, _, _, _, _]) (c' := [_, _, _, _, _, _, _, _, _, _]) rfl rfl rfl rfl rfl rfl rfl rfl rfl ?_
    refine wp_norm [_, _, _, _] rfl ?_
    refine op_pure (pv_assign (v := .int .i64 _) rfl) ?_
    refine xp_seq ?_
    refine xp_seq ?_
    refine xp_region rfl ?_
    refine op_pure (pv_move (v := .int .i64 _) rfl) ?_
    refine op_pure (pv_of (v := .bool _) rfl) ?_
    refine xp_condF rfl (by decide) ?_
    refine xp_skip ?_
    refine xp_seq ?_
    refine xp_dw [] rfl rfl rfl ?_
    refine dw_load (i := 0) rfl (by decide +kernel) ?_
    refine op_loadA (cs := [.slice _ _ _, .slice _ _ _, .slice _ _ _, .slice _ _ _]) rfl rfl rfl rfl (cells_blk ((Ext.trans (Ext.trans E1 E2) E3) _ _ p0)) ?_
    refine dw_load (i := 1) rfl (by decide +kernel) ?_
    refine op_loadPA 3 (vs := [.slice _ _ _, .map _, .map _, .map _, .map _, .slice _ _ _, .map _, .map _, .map _, .map _]) rfl rfl rfl rfl rfl ?_
    refine dw_load (i := 2) rfl (by decide +kernel) ?_
    refine op_loadA (cs := [.slice _ _ _, .slice _ _ _, .slice _ _ _, .slice _ _ _]) rfl rfl rfl rfl (cells_blk ((Ext.trans (Ext.trans E1 E2) E3) _ _ p0)) ?_
    refine dw_load (i := 4) rfl (by decide +kernel) ?_
    refine op_load (v := .slice _ _ _) rfl rfl (by simp only [cellA, (Ext.trans E2 E3) _ _ p1]; rfl) ?_
    refine dw_eff (i := 3) rfl (by decide +kernel) ?_
    refine op_fn (caps := []) (vs := [.agg #[.slice _ _ _, .map _, .map _, .map _, .map _, .slice _ _ _, .map _, .map _, .map _, .map _], .agg #[.slice _ _ _, .slice _ _ _, .slice _ _ _, .slice _ _ _]]) rfl rfl rfl (failing_ok s SV A c mf fm fl A' c' mf' fm' fl' A0 A1 A2 A3 c0 c1 c2 c3 h3 (R.ext (Ext.trans (Ext.trans (Ext.trans E0 E1) E2) E3)) X X') ?_
    rintro _ h4 E4 rfl
    refine ⟨ext_wlm E4 _, ?_⟩
    refine dw_last (i := 5) rfl (by decide +kernel) (by decide +kernel) ?_
    refine op_fn (caps := []) (vs := [.agg #[.slice _ _ _, .slice _ _ _, .slice _ _ _, .slice _ _ _], .int .u64 _, .slice _ _ _]) rfl rfl rfl (unseen_ok s hw6 A0 A1 A2 A3 c0 c1 c2 c3 (failingM s) (failingM_lt hw6) l hl B cB h4 (RB.ext (Ext.trans (Ext.trans (Ext.trans (Ext.trans E0 E1) E2) E3) E4))) ?_
    rintro _ h5 E5 rfl
    refine dw_pure (i := 6) rfl (by decide +kernel) (pv_assign (v := .int .i64 _) rfl) ?_
    refine dw_pure (i := 7) rfl (by decide +kernel) (pv_assign (v := .int .i64 _) rfl) ?_
    refine dw_end rfl ?_
    refine xp_ret ?_
    refine res_list (vs := [_, _]) Try.results40 ⟨resV_tmp rfl rfl, resV_tmp rfl rfl, trivial⟩ fun V => ?_
    refine ⟨(Ext.trans (Ext.trans (Ext.trans (Ext.trans (Ext.trans (Ext.trans E0 E1) E2) E3) E4) E5) (ext_wl V)), ?_⟩
    rw [unseenV, if_pos he, he]; rfl
  · skip
    refine call_body Try.func40 rfl Try.ntmps40 rfl ?_
    refine xp_seq ?_
    refine xp_region rfl ?_
    refine op_box (v := .agg #[.slice _ _ _, .slice _ _ _, .slice _ _ _, .slice _ _ _]) (cs := [_, _, _, _]) rfl rfl fun b2 hb2 => ?_
    refine wp_norm [_] rfl ?_
    refine op_box (v := .slice _ _ _) (cs := [_]) rfl rfl fun b3 hb3 => ?_
    refine wp_norm [_, _] rfl ?_
    refine op_pure (pv_assign (v := .int .i64 _) rfl) ?_
    refine op_pure (pv_assign (v := .int .i64 _) rfl) ?_
    refine goes_pub 0 rfl ?_
    intro h0 E0 p0
    refine goes_pub 1 rfl ?_
    intro h1 E1 p1
    refine xp_seq ?_
    refine xp_region rfl ?_
    refine op_loadA (cs := [.slice _ _ _, .slice _ _ _, .slice _ _ _, .slice _ _ _]) rfl rfl rfl rfl (cells_blk (E1 _ _ p0)) ?_
    refine op_pure (pv_makeFunc (vs := []) (ws := [_, _]) rfl rfl) ?_
    refine op_buildSlice (zc := [_]) (vs := [(0, _)]) (cs := [_]) rfl rfl rfl rfl rfl rfl rfl fun b11 hb11 => ?_
    refine wp_norm [_, _, _] rfl ?_
    refine wp_pub 2 rfl rfl ?_
    intro h2 E2 p11
    refine wp_norm [_, _, _] rfl ?_
    refine op_fn (caps := []) (vs := [.agg #[.slice _ _ _, .slice _ _ _, .slice _ _ _, .slice _ _ _], .slice _ _ _]) rfl rfl rfl (known_no s A0 A1 A2 A3 c0 c1 c2 c3 h2 (R.ext (Ext.trans (Ext.trans E0 E1) E2)) Sm.h0 Sm.h1 Sm.h2 Sm.h3 [_] [_] _ _ (rowFn p11) rfl (by simp) (ask1 ((unseen1_ask s l hl B cB A0 A1 A2 A3 c0 c1 c2 c3 b3 b2 Sm.h0 _ (RB.ext (Ext.trans E0 E1)) p1 (E1 _ _ p0)).ext E2)) he) ?_
    rintro _ h3 E3 rfl
    refine op_pure (pv_move (v := .tuple #[.agg #[.slice _ _ _, .map _, .map _, .map _, .map _, .slice _ _ _, .map _, .map _, .map _, .map _], .int .i64 _]) rfl) ?_
    refine op_pure (pv_of (v := .agg #[.slice _ _ _, .map _, .map _, .map _, .map _, .slice _ _ _, .map _, .map _, .map _, .map _]) rfl) ?_
    refine op_pure (pv_of (v := .int .i64 _) rfl) ?_
    refine op_alloc (cs := [_, _, _, _, _, _, _, _, _, _]) rfl rfl fun b6 hb6 => ?_
    refine wp_norm [_, _, _, _] rfl ?_
    refine op_storeP 3 (v := .agg #[.slice _ _ _, .map _, .map _, .map _, .map _, .slice _ _ _, .map _, .map _, .map _, .map _]) (vs := [_, _, _, _, _, _, _, _, _, _]) (c' := [_, _, _, _, _, _, _, _, _, _]) rfl rfl rfl rfl rfl rfl rfl rfl rfl ?_
    refine wp_norm [_, _, _, _] rfl ?_
    refine op_pure (pv_assign (v := .int .i64 _) rfl) ?_
    refine xp_seq ?_
    refine xp_seq ?_
    refine xp_region rfl ?_
    refine op_pure (pv_move (v := .int .i64 _) rfl) ?_
    refine op_pure (pv_of (v := .bool _) rfl) ?_
    refine xp_condT rfl (by simpa [unseenE] using he) ?_
    refine xp_seq ?_
    refine xp_region rfl ?_
    refine op_pure (pv_move (v := .int .i64 _) rfl) ?_
    refine op_pure (pv_assign (v := .int .i64 _) rfl) ?_
    refine op_pure (pv_assign (v := .int .i64 _) rfl) ?_
    refine xp_ret ?_
    refine res_list (vs := [_, _]) Try.results40 ⟨resV_tmp rfl rfl, resV_tmp rfl rfl, trivial⟩ fun V => ?_
    refine ⟨(Ext.trans (Ext.trans (Ext.trans (Ext.trans E0 E1) E2) E3) (ext_wl V)), ?_⟩
    rw [unseenV, if_neg he]; rfl
end Go.Proofs.Ytndfkbapoinmkaa
/- Plain: all lists of so many numbers; the fewest of them that will do. Conditions: as each theorem states. -/
namespace Go.Wx
open Go Go.HL
/-- All lists of so many numbers from a on, below n. -/
def chM (n : Nat) : Nat → Nat → List (List Int)
  | 0, _ => [[]]
  | m + 1, a => (List.range' a (n - a)).flatMap fun i => (chM n m (i + 1)).map fun l => (i : Int) :: l
theorem chM_bd : ∀ n : Fin 8, ∀ m : Fin 8, ∀ a : Fin 10, (chM n.val m.val a.val).length ≤ 128 := by decide +kernel
theorem chM_len (n : Nat) : ∀ (m a : Nat) (l : List Int), l ∈ chM n m a → l.length = m
  | 0, a, l, h => by simp [chM] at h; subst h; rfl
  | m + 1, a, l, h => by
    simp only [chM, List.mem_flatMap, List.mem_map] at h
    obtain ⟨i, _, l', h1, rfl⟩ := h
    rw [List.length_cons, chM_len n m (i + 1) l' h1]
/-- Those that begin below k. -/
def chK (n m a k : Nat) : List (List Int) := (List.range' a (k - a)).flatMap fun i => (chM n m (i + 1)).map fun l => (i : Int) :: l
theorem chK_zero (n m a : Nat) : chK n m a a = [] := by simp [chK]
theorem chK_succ {n m a k : Nat} (h : a ≤ k) : chK n m a (k + 1) = chK n m a k ++ (chM n m (k + 1)).map fun l => (k : Int) :: l := by
  unfold chK
  rw [show k + 1 - a = (k - a) + 1 from by omega, List.range'_1_concat, List.flatMap_append, show a + (k - a) = k from by omega]
  simp
theorem chK_all {n m a : Nat} : chK n m a (max n a) = chM n (m + 1) a := by
  unfold chK
  rw [chM]
  congr 2
  omega
theorem combsM_eq (n : Nat) : ∀ (m a : Nat) (b : List Int), combsM n m a b = (chM n m a).map fun l => b ++ l
  | 0, a, b => by simp [combsM, chM]
  | m + 1, a, b => by
    simp only [combsM, chM, List.map_flatMap, List.map_map]
    congr 1
    funext i
    rw [combsM_eq n m (i + 1)]
    congr 1
    funext l
    simp
theorem fewestP_eq (n : Nat) (p : List Int → Bool) (k : Nat) : fewestP n p k = ((List.range k).flatMap fun m => chM n m 0).find? p := by
  unfold fewestP
  congr 2
  funext m
  rw [combsM_eq]
  simp
end Go.Wx
/- Walks: all lists of so many numbers. Conditions: as each theorem states. -/
namespace Go.Proofs.Ytndfkbapoinmkaa
open Go Go.HL Go.Proofs Go.Wx
set_option maxRecDepth 100000
/-- Values that are slices which hold the lists. -/
def LLv (h : AH) (ls : List (List Int)) (vs : List Value) : Prop := vs.length = ls.length ∧ ∀ (i : Nat) l v, ls[i]? = some l → vs[i]? = some v → SlR h 1 intC l v
theorem LLv.ext {h h' : AH} {ls : List (List Int)} {vs : List Value} (x : LLv h ls vs) (E : Ext h h') : LLv h' ls vs := ⟨x.1, fun i l v a b => (x.2 i l v a b).ext E⟩
theorem LLv.nil {h : AH} : LLv h [] [] := ⟨rfl, fun i l v a _ => by simp at a⟩
theorem LLv.snoc {h : AH} {ls : List (List Int)} {vs : List Value} (x : LLv h ls vs) {l : List Int} {v : Value} (s : SlR h 1 intC l v) : LLv h (ls ++ [l]) (vs ++ [v]) := by
  refine ⟨by simp [x.1], fun i l' v' a b => ?_⟩
  by_cases hi : i < ls.length
  · rw [List.getElem?_append_left hi] at a
    rw [List.getElem?_append_left (by rw [x.1]; exact hi)] at b
    exact x.2 i l' v' a b
  · have h1 := (List.getElem?_eq_some_iff.1 a).1
    have hie : i = ls.length := by simp at h1; omega
    subst hie
    rw [List.getElem?_append_right (Nat.le_refl _), Nat.sub_self] at a
    rw [List.getElem?_append_right (by rw [x.1]; exact Nat.le_refl _), x.1, Nat.sub_self] at b
    simp at a b
    subst a b
    exact s
/-- A slice of slices. -/
def LLR (h : AH) (ls : List (List Int)) (v : Value) : Prop := ∃ A c vs, v = .slice A ls.length c ∧ Row h 1 fnC A vs ∧ LLv h ls vs
theorem accR1 {e : TypeId} {b : Nat} {v : Value} : AccR e 1 [v] ⟨some (b, .cells #[v] e (0, 0)), some ⟨b, 0, none⟩, 1, 1⟩ := .inr ⟨b, 1, 1, [], rfl, rfl, rfl, rfl⟩
theorem flat_fn : ∀ l : List Value, l.flatMap fnC = l
  | [] => rfl
  | v :: l => by rw [List.flatMap_cons, flat_fn l]; rfl
set_option maxHeartbeats 1000000 in
theorem Choices_ok (n : Nat) (hn : n ≤ 7) : ∀ (m : Nat), m ≤ 7 → ∀ (a : Nat), a ≤ 8 → ∀ (h : AH), FnT Try.prog 42 #[.int .i64 a, .int .i64 n, .int .i64 m] h (fun v h' => LLR h' (chM n m a) v) := by
  intro m
  induction m with
  | zero =>
    intro _ a _ h
    refine call_body Try.func42 rfl Try.ntmps42 rfl ?_
    refine xp_seq ?_
    refine xp_region rfl ?_
    refine op_pure (pv_assign (v := .slice _ _ _) rfl) ?_
    refine xp_seq ?_
    refine xp_seq ?_
    refine xp_region rfl ?_
    refine op_pure (pv_move (v := .int .i64 _) rfl) ?_
    refine op_pure (pv_of (v := .bool _) rfl) ?_
    refine xp_condT rfl (rfl) ?_
    refine xp_seq ?_
    refine xp_region rfl ?_
    refine op_buildSlice (zc := [_]) (vs := [(0, .slice _ _ _)]) (cs := [_]) rfl rfl rfl rfl rfl rfl rfl fun b13 hb13 => ?_
    refine wp_norm [_] rfl ?_
    refine op_pure (pv_assign (v := .slice _ _ _) rfl) ?_
    refine xp_ret ?_
    refine res_list (vs := [_]) Try.results42 ⟨resV_tmp rfl rfl, trivial⟩ fun V => ?_
    refine ⟨(ext_wl V), some ⟨b13, 0, none⟩, 1, [.slice none 0 0], rfl, rowFn (wl_get V (i := 0) rfl), rfl, fun i l v a b => ?_⟩
    match i with
    | 0 => simp [chM] at a b; subst a b; exact ⟨none, 0, rfl, fun _ h => (by cases h), Rd.nil _ _⟩
    | i + 1 => simp [chM] at a
  | succ m ih =>
    intro hm a ha h
    refine call_body Try.func42 rfl Try.ntmps42 rfl ?_
    refine goes_more ?_
    refine goes_norm [_] rfl ?_
    refine xp_seq ?_
    refine xp_region rfl ?_
    refine op_pure (pv_assign (v := .slice _ _ _) rfl) ?_
    refine xp_seq ?_
    refine xp_seq ?_
    refine xp_region rfl ?_
    refine op_pure (pv_move (v := .int .i64 _) rfl) ?_
    refine op_pure (pv_of (v := .bool _) rfl) ?_
    refine xp_condF rfl ((by simp; omega)) ?_
    refine xp_skip ?_
    refine xp_seq ?_
    refine xp_region rfl ?_
    refine op_pure (pv_assign (v := .slice _ _ _) rfl) ?_
    refine xp_seq ?_
    refine xp_seq ?_
    refine xp_region rfl ?_
    refine op_pure (pv_move (v := .int .i64 _) rfl) ?_
    refine op_pure (pv_assign (v := .int .i64 _) rfl) ?_
    refine xp_block ?_
    refine xp_loopL [7, 8, 9, 10, 15, 16, 17, 18, 19, 20, 21, 22, 23, 24, 25, 26, 27, 28, 29, 30, 31, 32, 33, 34, 35, 36, 37, 38, 39, 40, 41] 1 (α := Nat × Acc × List Value) (fun ⟨k, ao, vs⟩ => [(8, .int .i64 k), (7, .slice ao.A ao.n ao.c)]) (fun ⟨k, ao, vs⟩ L => L.set 0 (ao.p)) (fun ⟨k, ao, vs⟩ h_k => (a ≤ k ∧ k ≤ max n a) ∧ AccR 27 1 vs ao ∧ LLv h_k (chK n m a k) vs) (fun ⟨k, ao, vs⟩ => max n a - k) ((a, acc0, [])) ⟨rfl, rfl, trivial⟩ (rfl) (⟨⟨Nat.le_refl _, by omega⟩, accR0, by rw [chK_zero]; exact LLv.nil⟩) ?_
    rintro ⟨k, ao, vs⟩ T1 h_k E_k J_k
    refine goes_norm [_] rfl ?_
    obtain ⟨⟨K1, K2⟩, K3, K4⟩ := J_k
    refine xp_seq ?_
    refine xp_seq ?_
    refine xp_region rfl ?_
    refine op_pure (pv_move (v := .int .i64 _) rfl) ?_
    refine op_pure (pv_move (v := .int .i64 _) rfl) ?_
    refine op_pure (pv_of (v := .bool _) rfl) ?_
    refine xp_cond rfl (fun hk => ?_) (fun hk => ?_)
    · skip
      have hkn : k < n := ltI hk
      have hlen : (chM n m (k + 1)).length ≤ 128 := chM_bd ⟨n, by omega⟩ ⟨m, by omega⟩ ⟨k + 1, by omega⟩
      have hall : (chM n (m + 1) a).length ≤ 128 := chM_bd ⟨n, by omega⟩ ⟨m + 1, by omega⟩ ⟨a, by omega⟩
      refine xp_skip ?_
      refine xp_seq ?_
      refine xp_block ?_
      refine xp_seq ?_
      refine xp_region rfl ?_
      refine op_pure (pv_move (v := .int .i64 _) rfl) ?_
      refine op_pure (pv_arith rfl (by omega)) ?_
      refine op_pure (pv_move (v := .int .i64 _) rfl) ?_
      refine op_pure (pv_move (v := .int .i64 _) rfl) ?_
      refine op_pure (pv_arith rfl (by omega)) ?_
      rw [show ((m + 1 : Nat) : Int) - 1 = (m : Int) from by omega]
      refine op_fn (caps := []) (vs := [.int .i64 _, .int .i64 _, .int .i64 _]) rfl rfl rfl (ih (by omega) (k + 1) (by omega) h_k) ?_
      rintro _ h1 E1 ⟨RA, rc, rvs, rfl, RR, RL⟩
      refine op_pure (pv_assign (v := .slice _ _ _) rfl) ?_
      refine xp_seq ?_
      refine xp_region rfl ?_
      refine op_pure (pv_assign (v := .int .i64 _) rfl) ?_
      refine xp_block ?_
      refine xp_loopL [7, 10, 26, 27, 28, 29, 30, 31, 32, 33, 34, 35, 36, 37, 38, 39, 40, 41] 1 (α := Nat × Acc × List Value) (fun ⟨r, ao2, vs2⟩ => [(10, .int .i64 r), (7, .slice ao2.A ao2.n ao2.c)]) (fun ⟨r, ao2, vs2⟩ L => L.set 0 (ao2.p)) (fun ⟨r, ao2, vs2⟩ h_r => r ≤ (chM n m (k + 1)).length ∧ AccR 27 1 vs2 ao2 ∧ LLv h_r (chK n m a k ++ ((chM n m (k + 1)).take r).map fun l => (k : Int) :: l) vs2) (fun ⟨r, ao2, vs2⟩ => (chM n m (k + 1)).length - r) ((0, ao, vs)) ⟨rfl, rfl, trivial⟩ (rfl) (⟨Nat.zero_le _, K3, by simpa using K4.ext E1⟩) ?_
      rintro ⟨r, ao2, vs2⟩ T2 h_r E_r J_r
      refine goes_norm [_] rfl ?_
      obtain ⟨Q1, Q2, Q3⟩ := J_r
      refine xp_seq ?_
      refine xp_seq ?_
      refine xp_region rfl ?_
      refine op_pure (pv_move (v := .int .i64 _) rfl) ?_
      refine op_pure (pv_move (v := .slice _ _ _) rfl) ?_
      refine op_pure (pv_len rfl rfl) ?_
      refine op_pure (pv_of (v := .bool _) rfl) ?_
      refine xp_cond rfl (fun hr => ?_) (fun hr => ?_)
      · skip
        have hrl : r < (chM n m (k + 1)).length := ltI hr
        have hrv : r < rvs.length := by rw [RL.1]; exact hrl
        obtain ⟨gR, oR, hRA, hcR⟩ := (RR.ext E_r).at (by omega) hrv
        obtain ⟨A', c', hv, R'⟩ := RL.2 r _ _ (List.getElem?_eq_getElem hrl) (List.getElem?_eq_getElem hrv)
        have hll := chM_len n m (k + 1) _ (List.getElem_mem hrl)
        have hcR0 : cellA h_r ⟨gR, oR + r * 1 + 0, none⟩ = some (.slice A' (chM n m (k + 1))[r].length c') := hcR 0 _ (by rw [hv]; rfl)
        have hvs2 : vs2.length ≤ 16384 := by
          rw [Q3.1, List.length_append, List.length_map, List.length_take]
          have h1 : (chK n m a k).length ≤ 128 := by
            have h2 : (chK n m a k).length ≤ (chK n m a (max n a)).length := by
              unfold chK
              rw [show max n a - a = (k - a) + (max n a - k) from by omega, ← List.range'_append_1, List.flatMap_append, List.length_append]
              omega
            rw [chK_all] at h2
            omega
          omega
        refine xp_skip ?_
        refine xp_seq ?_
        refine xp_block ?_
        refine xp_region rfl ?_
        refine op_pure (pv_move (v := .slice _ _ _) rfl) ?_
        refine op_pure (pv_move (v := .int .i64 _) rfl) ?_
        refine op_buildSlice (zc := [_]) (vs := [(0, .int .i64 _)]) (cs := [_]) rfl rfl rfl rfl rfl rfl rfl fun b34 hb34 => ?_
        refine wp_norm [_, _] rfl ?_
        refine op_pure (pv_move (v := .slice _ _ _) rfl) ?_
        refine op_pure (pv_move (v := .int .i64 _) rfl) ?_
        refine op_pure (pv_indexE rfl hRA rfl rfl rfl (by omega) (by omega)) ?_
        refine op_load (v := .slice _ _ _) rfl rfl hcR0 ?_
        refine op_appendR 1 accR1 rfl rfl rfl (fun V => R'.2.ext (Ext.trans E_r (ext_wl V))) (flat_len R'.1) (flat_plain intP _) rfl rfl rfl rfl rfl rfl rfl (by omega) rfl (by rw [flat_len (fun _ _ => rfl) (m := 1)]; simp; omega) fun a2 h3a E3a ha2 => ?_
        refine wp_norm [_, _] rfl ?_
        obtain ⟨bN, lenN, capN, junkN, hlN, rfl⟩ := AccR.some ha2 (by simp)
        have eN : lenN = (((k : Int) :: (chM n m (k + 1))[r]).length) := by rw [List.length_append, flat_len (fun _ _ => rfl) (m := 1)] at hlN; simp at hlN ⊢; omega
        subst eN
        refine wp_pub 1 rfl rfl ?_
        intro g F PN
        refine wp_norm [_, _] rfl ?_
        have SN : SlR g 1 intC ((k : Int) :: (chM n m (k + 1))[r]) (.slice (some ⟨bN, 0, none⟩) ((k : Int) :: (chM n m (k + 1))[r]).length capN) := ⟨_, _, rfl, row_junk (enc := intC) (l := (k : Int) :: (chM n m (k + 1))[r]) intM PN⟩
        refine op_buildSlice (zc := [_]) (vs := [(0, .slice _ _ _)]) (cs := [_]) rfl rfl rfl rfl rfl rfl rfl fun b40 hb40 => ?_
        refine wp_norm [_, _, _] rfl ?_
        refine op_appendR 0 Q2 rfl rfl rfl (fun V => rdP V (i := 2) rfl) rfl rfl rfl rfl rfl rfl rfl rfl rfl (by omega) rfl (by simp; omega) fun ao3 h4a E4a L3 => ?_
        refine wp_norm [_, _, _] rfl ?_
        refine op_pure (pv_assign (v := .slice _ _ _) rfl) ?_
        refine xp_region rfl ?_
        refine op_pure (pv_move (v := .int .i64 _) rfl) ?_
        refine op_pure (pv_arith rfl (by omega)) ?_
        refine op_pure (pv_assign (v := .int .i64 _) rfl) ?_
        refine ⟨(r + 1, ao3, vs2 ++ [.slice (some ⟨bN, 0, none⟩) ((k : Int) :: (chM n m (k + 1))[r]).length capN]), ⟨rfl, rfl, trivial⟩, rfl, rfl, (Ext.trans (Ext.trans (Ext.trans E_r E3a) F) E4a), fun h3 E3 => ⟨hrl, L3, by rw [take_snoc hrl, List.map_append, ← List.append_assoc]; exact ((Q3.ext (Ext.trans (Ext.trans E3a F) E4a)).snoc (SN.ext E4a)).ext E3⟩, by first | omega | (dsimp only; omega), ?_⟩
        repeat (first | exact off_base _ _ _ | refine off_upd (by decide) ?_ | refine off_updL rfl ?_ | refine off_mix rfl ?_)
      · skip
        have hre : r = (chM n m (k + 1)).length := by have := geI hr; omega
        subst hre
        rw [List.take_length, ← chK_succ K1] at Q3
        refine xp_exit ?_
        refine xp_region rfl ?_
        refine op_pure (pv_move (v := .int .i64 _) rfl) ?_
        refine op_pure (pv_arith rfl (by omega)) ?_
        refine op_pure (pv_assign (v := .int .i64 _) rfl) ?_
        refine ⟨(k + 1, ao2, vs2), ⟨rfl, rfl, trivial⟩, rfl, rfl, (Ext.trans (Ext.trans E_k E1) E_r), fun h3 E3 => ⟨⟨by omega, by omega⟩, Q2, Q3.ext E3⟩, by first | omega | (dsimp only; omega), ?_⟩
        repeat (first | exact off_base _ _ _ | refine off_upd (by decide) ?_ | refine off_updL rfl ?_ | refine off_mix rfl ?_)
    · skip
      have hke : k = max n a := by have := geI hk; omega
      subst hke
      rw [chK_all] at K4
      obtain ⟨pO, AO, nO, cO⟩ := ao
      obtain rfl : nO = (chM n (m + 1) a).length := by have := AccR.len K3; have := K4.1; dsimp only at *; omega
      dsimp only
      refine goes_pubO 0 rfl ?_
      intro g G P
      refine goes_norm [_] rfl ?_
      refine xp_exit ?_
      refine xp_seq ?_
      refine xp_region rfl ?_
      refine op_pure (pv_move (v := .slice _ _ _) rfl) ?_
      refine op_pure (pv_assign (v := .slice _ _ _) rfl) ?_
      refine xp_ret ?_
      refine res_list (vs := [_]) Try.results42 ⟨resV_tmp rfl rfl, trivial⟩ fun V => ?_
      exact ⟨(Ext.trans (Ext.trans E_k G) (ext_wl V)), AO, cO, vs, rfl, ⟨fun _ _ => rfl, by rw [flat_fn]; exact (AccR.rd K3 P).ext (ext_wl V)⟩, K4.ext (Ext.trans G (ext_wl V))⟩
end Go.Proofs.Ytndfkbapoinmkaa
/- Plain: the fewest weeks that will do. Conditions: as each theorem states. -/
namespace Go.Wx
open Go Go.HL
theorem fewestP_step (n : Nat) (p : List Int → Bool) (k : Nat) : fewestP n p (k + 1) = (fewestP n p k).or ((chM n k 0).find? p) := by
  rw [fewestP_succ, combsM_eq]
  simp
theorem fewestP_mono {n : Nat} {p : List Int → Bool} {k : Nat} {x : List Int} (h : fewestP n p k = some x) : ∀ j, fewestP n p (k + j) = some x
  | 0 => h
  | j + 1 => by rw [← Nat.add_assoc, fewestP_step, fewestP_mono h j]; rfl
theorem fewestP_mem {n : Nat} {p : List Int → Bool} : ∀ {k : Nat} {x : List Int}, fewestP n p k = some x → ∃ m, m < k ∧ x ∈ chM n m 0 ∧ p x = true
  | 0, x, h => by simp [fewestP] at h
  | k + 1, x, h => by
    rw [fewestP_step] at h
    cases hf : fewestP n p k with
    | some y =>
      rw [hf] at h
      obtain ⟨m, a, b, c⟩ := fewestP_mem hf
      simp at h
      subst h
      exact ⟨m, by omega, b, c⟩
    | none =>
      rw [hf] at h
      simp at h
      exact ⟨k, by omega, List.mem_of_find?_eq_some h, List.find?_some h⟩
/-- A list that will do tells that one of at most as many numbers is found. -/
theorem fewestP_le {n : Nat} {p : List Int → Bool} {m : Nat} {x : List Int} (hx : x ∈ chM n m 0) (hp : p x = true) : ∀ {k : Nat}, m < k → ∃ y, fewestP n p k = some y ∧ y.length ≤ m
  | 0, h => absurd h (Nat.not_lt_zero m)
  | k + 1, h => by
    rw [fewestP_step]
    by_cases hk : m < k
    · obtain ⟨y, e, hl⟩ := fewestP_le hx hp hk
      exact ⟨y, by rw [e]; rfl, hl⟩
    · have hmk : m = k := by omega
      subst hmk
      cases hf : fewestP n p m with
      | some y =>
        obtain ⟨m', a, b, _⟩ := fewestP_mem hf
        exact ⟨y, rfl, by rw [chM_len n m' 0 y b]; omega⟩
      | none =>
        cases hg : (chM n m 0).find? p with
        | none => exact absurd hp (by have := List.find?_eq_none.1 hg x hx; simpa using this)
        | some y => exact ⟨y, rfl, by rw [chM_len n m 0 y (List.mem_of_find?_eq_some hg)]; exact Nat.le_refl _⟩
theorem full_mem (n : Nat) : ∀ (m a : Nat), a + m = n → ((List.range' a m).map fun i : Nat => (i : Int)) ∈ chM n m a
  | 0, a, _ => by simp [chM]
  | m + 1, a, h => by
    simp only [chM, List.mem_flatMap, List.mem_map]
    refine ⟨a, ?_, _, full_mem n m (a + 1) (by omega), by rw [List.range'_succ, List.map_cons]⟩
    rw [List.mem_range'_1]
    omega
theorem chM_asc (n : Nat) : ∀ (m a : Nat) (l : List Int), l ∈ chM n m a → (∀ z ∈ l, (a : Int) ≤ z ∧ z < n) ∧ l.Pairwise (· < ·)
  | 0, a, l, h => by simp [chM] at h; subst h; simp
  | m + 1, a, l, h => by
    simp only [chM, List.mem_flatMap, List.mem_map, List.mem_range'_1] at h
    obtain ⟨i, ⟨h1, h2⟩, l', h3, rfl⟩ := h
    obtain ⟨a1, a2⟩ := chM_asc n m (i + 1) l' h3
    refine ⟨fun z hz => ?_, List.pairwise_cons.2 ⟨fun z hz => ?_, a2⟩⟩
    · rcases List.mem_cons.1 hz with rfl | hz
      · omega
      · have := a1 z hz; omega
    · have := a1 z hz; omega
theorem lookAt_le {d : Int} : ∀ (l : List Int) (n i : Int), i ∈ l → d ≤ i → lookAt n d l ≤ i
  | [], n, i, h, _ => by cases h
  | x :: l, n, i, h, hd => by
    rw [show lookAt n d (x :: l) = lookAt (if d ≤ x then min n x else n) d l from rfl]
    rcases List.mem_cons.1 h with rfl | h
    · rw [if_pos hd]
      have := (lookAt_bd d l (min n i)).2
      omega
    · exact lookAt_le l _ i h hd
theorem unseenOf_le {n w : Int} {ins : List Int} (hw : 0 ≤ w) : ∀ (ds : List Int), (∀ d ∈ ds, lookAt n d ins - d ≤ w) → unseenOf n ds ins ≤ w := by
  have key : ∀ (ds : List Int), (∀ d ∈ ds, lookAt n d ins - d ≤ w) → ∀ a : Int, a ≤ w → ds.foldl (fun a d => max a (lookAt n d ins - d)) a ≤ w := by
    intro ds
    induction ds with
    | nil => intro _ a h; exact h
    | cons d l ih =>
      intro hd a h
      have h1 := hd d (List.mem_cons_self ..)
      exact ih (fun x hx => hd x (List.mem_cons_of_mem _ hx)) _ (by show max _ _ ≤ _; omega)
  exact fun ds h => key ds h 0 hw
/-- Whether some weeks will do. -/
def willDo (s : Season) (w : Int) (l : List Int) : Bool := decide (unseenOf s.heats.length (listM (failingM s)) l ≤ w)
theorem failing_bd {s : Season} (h1 : 1 ≤ s.heats.length) {d : Int} (h : d ∈ listM (failingM s)) : 0 ≤ d ∧ d < s.heats.length := by
  obtain ⟨i, rfl, _, hb⟩ := listN_mem h
  unfold failingM at hb
  rw [uptoM_bit] at hb
  simp at hb
  omega
theorem will_full {s : Season} (h1 : 1 ≤ s.heats.length) {w : Int} (hw : 0 ≤ w) : willDo s w ((List.range' 0 s.heats.length).map fun i : Nat => (i : Int)) = true := by
  unfold willDo
  rw [decide_eq_true_eq]
  refine unseenOf_le hw _ fun d hd => ?_
  have hb := failing_bd h1 hd
  have := lookAt_le ((List.range' 0 s.heats.length).map fun i : Nat => (i : Int)) s.heats.length d (List.mem_map.2 ⟨d.toNat, by rw [List.mem_range'_1]; omega, by omega⟩) (Int.le_refl d)
  omega
theorem will_some {s : Season} (h1 : 1 ≤ s.heats.length) {w : Int} (hw : 0 ≤ w) : ∃ x, fewestP s.heats.length (willDo s w) (s.heats.length + 1) = some x := by
  obtain ⟨y, e, _⟩ := fewestP_le (full_mem s.heats.length s.heats.length 0 (by omega)) (will_full h1 hw) (Nat.lt_succ_self _)
  exact ⟨y, e⟩
theorem will_longer {s : Season} {w : Int} {x : List Int} {k : Nat} (h : fewestP s.heats.length (willDo s w) k = some x) : ∃ y, fewestP s.heats.length (willDo s (w + 1)) k = some y ∧ y.length ≤ x.length := by
  obtain ⟨m, h1, h2, h3⟩ := fewestP_mem h
  obtain ⟨y, e, hl⟩ := fewestP_le (p := willDo s (w + 1)) h2 (by unfold willDo at h3 ⊢; rw [decide_eq_true_eq] at h3 ⊢; omega) h1
  exact ⟨y, e, by rw [chM_len _ m 0 x h2]; exact hl⟩
end Go.Wx
/- Walks: the law on weeks in which somebody looks. Conditions: as each theorem states. -/
namespace Go.Proofs.Ytndfkbapoinmkaa
open Go Go.HL Go.Proofs Go.Wx Go.RowKit
set_option maxRecDepth 100000
theorem looks_ch {n m : Nat} {l : List Int} (h : l ∈ chM n m 0) : looksM n l = 0 := by
  obtain ⟨h1, h2⟩ := chM_asc n m 0 l h
  unfold looksM
  refine firstErr_all fun i hi => ?_
  have hil : i < l.length := by simpa using hi
  have hgd : l.getD i 0 = l[i] := by rw [List.getD_eq_getElem?_getD, List.getElem?_eq_getElem hil]; rfl
  have hb := h1 _ (List.getElem_mem hil)
  unfold lookE
  rw [if_neg (by unfold inM; rw [hgd]; simp; omega), if_neg]
  rintro ⟨h0, hle⟩
  have hi1 : i - 1 < l.length := by omega
  have hgd1 : l.getD (i - 1) 0 = l[i - 1] := by rw [List.getD_eq_getElem?_getD, List.getElem?_eq_getElem hi1]; rfl
  rw [hgd, hgd1] at hle
  have := (List.pairwise_iff_getElem.1 h2) (i - 1) i hi1 hil (by omega)
  omega
theorem unseen_of {s : Season} (c : CheckS s) (m : mayM s = true) {l : List Int} {k : Nat} (h : l ∈ chM s.heats.length k 0) : unseenE s l = 0 ∧ unseenV s l = unseenOf s.heats.length (listM (failingM s)) l := by
  have e : unseenE s l = 0 := known_of c m (by intro x hx; rw [List.mem_singleton.1 hx]; exact looks_ch h)
  exact ⟨e, by unfold unseenV; rw [if_pos e]⟩
theorem inspect_of {s : Season} (c : CheckS s) (m : mayM s = true) {w : Int} (hw : 0 ≤ w ∧ w ≤ 6) : inspectE s w = 0 ∧ inspectL s w = (fewestP s.heats.length (willDo s w) (s.heats.length + 1)).getD [] := by
  have e : inspectE s w = 0 := known_of c m (by intro x hx; rw [List.mem_singleton.1 hx]; unfold waitM inM; rw [if_pos (by simp; omega)])
  exact ⟨e, by unfold inspectL; rw [if_pos e]; rfl⟩
end Go.Proofs.Ytndfkbapoinmkaa
/- Plain: which weathers there are; another weather; sets and their ends. Conditions: as each theorem states. -/
namespace Go.Wx
open Go Go.HL
theorem skies_at : ∀ (rs : List Rg) (k : Nat) (x y : Sky), k + rs.length ≤ 6 → y ∈ skiesM rs k x → (∀ (i : Nat) r, rs[i]? = some r → r.mn ≤ y.at (k + i) ∧ y.at (k + i) ≤ r.mx) ∧ ∀ i, i < 6 → i < k ∨ k + rs.length ≤ i → y.at i = x.at i
  | [], k, x, y, _, h => by
    rw [skiesM, List.mem_singleton] at h
    subst h
    exact ⟨fun i r hr => by simp at hr, fun _ _ _ => rfl⟩
  | r :: rs, k, x, y, hl, h => by
    rw [List.length_cons] at hl ⊢
    rw [skiesM, List.mem_flatMap] at h
    obtain ⟨n, hn, h⟩ := h
    rw [mem_rangeI] at hn
    obtain ⟨h1, h2⟩ := skies_at rs (k + 1) _ y (by omega) h
    have hk : y.at k = n := by rw [h2 k (by omega) (by omega), Sky.at_set x n (by omega) (by omega), if_pos rfl]
    refine ⟨fun i q hq => ?_, fun i hi hc => ?_⟩
    · cases i with
      | zero => simp at hq; subst hq; rw [Nat.add_zero, hk]; omega
      | succ i =>
        have := h1 i q (by simpa using hq)
        rw [show k + 1 + i = k + (i + 1) by omega] at this
        exact this
    · rw [h2 i hi (by omega), Sky.at_set x n (by omega) hi, if_neg (by omega)]
/-- A weather is one of a season's just if each week is within its range. -/
theorem mem_allSkies {s : Season} {n : Int} (h6 : (weatherM s n).length ≤ 6) {y : Sky} : y ∈ allSkies s n ↔ (∀ (i : Nat) r, (weatherM s n)[i]? = some r → r.mn ≤ y.at i ∧ y.at i ≤ r.mx) ∧ ∀ i, i < 6 → (weatherM s n).length ≤ i → y.at i = 0 := by
  have z : ∀ i, i < 6 → sky0.at i = 0 := fun i hi => by
    match i, hi with
    | 0, _ => rfl
    | 1, _ => rfl
    | 2, _ => rfl
    | 3, _ => rfl
    | 4, _ => rfl
    | 5, _ => rfl
    | i + 6, h => omega
  constructor
  · intro h
    obtain ⟨h1, h2⟩ := skies_at _ 0 sky0 y (by omega) h
    exact ⟨fun i r hr => by have := h1 i r hr; rwa [Nat.zero_add] at this, fun i hi hl => by rw [h2 i hi (by omega), z i hi]⟩
  · rintro ⟨h1, h2⟩
    exact mem_skies _ 0 sky0 (by omega) (fun i r hr => by rw [Nat.zero_add]; exact h1 i r hr) (fun i hi hc => by rw [h2 i hi (by omega), z i hi])
def skyF (f : Nat → Int) : Sky := ⟨f 0, f 1, f 2, f 3, f 4, f 5⟩
theorem skyF_at (f : Nat → Int) : ∀ i, i < 6 → (skyF f).at i = f i
  | 0, _ => rfl
  | 1, _ => rfl
  | 2, _ => rfl
  | 3, _ => rfl
  | 4, _ => rfl
  | 5, _ => rfl
  | i + 6, h => by omega
theorem failsM_bit {s : Season} {i : Nat} {j : Joint} (hj : s.joints[i]? = some j) (w : Nat) : (failsM s i).testBit w = true ↔ ∃ x, x ∈ allSkies s j.kind ∧ okM s j.kind x = true ∧ ∃ y ∈ surv s j.kind x i, y.week = w := by
  unfold failsM
  rw [kindAt_some hj, maskM_bit]
  constructor
  · rintro ⟨y, hy, e⟩
    obtain ⟨x, h1, h2, h3⟩ := mem_flsM.1 hy
    exact ⟨x, h1, h2, y, h3, e⟩
  · rintro ⟨x, h1, h2, y, h3, e⟩
    exact ⟨y, mem_flsM.2 ⟨x, h1, h2, h3⟩, e⟩
/-- Without reports: all numbers, all weathers. -/
theorem bare_bit {s : Season} (c : CheckS s) (hr : s.reports = []) {i : Nat} {j : Joint} (hj : s.joints[i]? = some j) (w : Nat) : (failsM s i).testBit w = true ↔ ∃ x, x ∈ allSkies s j.kind ∧ ∃ h c many life : Int, (j.high.mn ≤ h ∧ h ≤ j.high.mx) ∧ (j.low.mn ≤ c ∧ c ≤ j.low.mx) ∧ (j.weeks.mn ≤ many ∧ many ≤ j.weeks.mx) ∧ (j.life.mn ≤ life ∧ life ≤ j.life.mx) ∧ weekM x s.heats.length h c many.toNat life.toNat = w := by
  rw [failsM_bit hj]
  have h6 := c.w6
  have hs : ∀ x y, y ∈ surv s j.kind x i ↔ y ∈ failuresM j x s.heats.length := by
    intro x y
    unfold surv
    rw [hj]
    simp only [if_true]
    rw [List.mem_filter]
    refine ⟨fun h => h.1, fun h => ⟨h, ?_⟩⟩
    have hw := failuresM_week h
    rw [toldW_bit s h6 (by rw [hr]; intro r h; cases h) i _ (by omega), hr]
    simpa using hw
  constructor
  · rintro ⟨x, h1, _, y, h3, e⟩
    obtain ⟨h, cc, many, life, a1, a2, a3, a4, rfl⟩ := mem_failuresM.1 ((hs x y).1 h3)
    exact ⟨x, h1, h, cc, many, life, a1, a2, a3, a4, e⟩
  · rintro ⟨x, h1, h, cc, many, life, a1, a2, a3, a4, e⟩
    exact ⟨x, h1, bare_ok c hr _ x, _, (hs x _).2 (mem_failuresM.2 ⟨h, cc, many, life, a1, a2, a3, a4, rfl⟩), e⟩
theorem failsM_week {s : Season} {i w : Nat} (h : (failsM s i).testBit w = true) : w ≤ s.heats.length := by
  unfold failsM at h
  obtain ⟨y, hy, e⟩ := (maskM_bit _ _).1 h
  have := flsK_week hy
  omega
theorem bare_ne {s : Season} (c : CheckS s) (hr : s.reports = []) {i : Nat} (hi : i < s.joints.length) : failsM s i ≠ 0 := by
  have hj : s.joints[i]? = some s.joints[i] := List.getElem?_eq_getElem hi
  have B := (checkJointM_zero (c.j _ (List.getElem_mem hi))).1
  obtain ⟨x, hx⟩ := some_sky c s.joints[i].kind
  have := (bare_bit c hr hj _).2 ⟨x, hx, _, _, _, _, ⟨Int.le_refl _, B.h2⟩, ⟨Int.le_refl _, B.l2⟩, ⟨Int.le_refl _, B.w2⟩, ⟨Int.le_refl _, B.a2⟩, rfl⟩
  intro e
  rw [e] at this
  simp at this
/-- The ends of sets, one of which comes before the other. -/
theorem head_le {m m' : Nat} (h : ∀ w, w < 7 → m.testBit w = true → ∃ w', w' ≤ w ∧ m'.testBit w' = true) (hm : listM m ≠ []) : (listM m').headD 0 ≤ (listM m).headD 0 := by
  obtain ⟨z, l, e⟩ : ∃ z l, listM m = z :: l := by cases h : listM m with | nil => exact absurd h hm | cons z l => exact ⟨z, l, rfl⟩
  rw [e, List.headD_cons]
  obtain ⟨i, rfl, hi, hb⟩ := listN_mem (m := m) (k := 7) (z := z) (by show z ∈ listM m; rw [e]; exact List.mem_cons_self ..)
  obtain ⟨w', h1, h2⟩ := h i hi hb
  have hmem : ((w' : Nat) : Int) ∈ listM m' := mem_listN.2 ⟨w', rfl, by omega, h2⟩
  cases e' : listM m' with
  | nil => rw [e'] at hmem; cases hmem
  | cons y l' =>
    rw [e'] at hmem
    rw [List.headD_cons]
    have hp : (listM m').Pairwise (· < ·) := listN_pair m' 7
    rw [e', List.pairwise_cons] at hp
    rcases List.mem_cons.1 hmem with e2 | h3
    · omega
    · have := hp.1 _ h3; omega
theorem last_le {m m' : Nat} (h : ∀ w', w' < 7 → m'.testBit w' = true → ∃ w, w' ≤ w ∧ w < 7 ∧ m.testBit w = true) (hm : listM m' ≠ []) : (listM m').getLastD 0 ≤ (listM m).getLastD 0 := by
  have hl : (listM m').getLastD 0 ∈ listM m' := by
    rw [List.getLastD_eq_getLast?, List.getLast?_eq_some_getLast hm]
    exact List.getLast_mem hm
  obtain ⟨i, e, hi, hb⟩ := listN_mem hl
  obtain ⟨w, h1, h2, h3⟩ := h i hi hb
  have hmem : ((w : Nat) : Int) ∈ listM m := mem_listN.2 ⟨w, rfl, h2, h3⟩
  have hne : listM m ≠ [] := List.ne_nil_of_mem hmem
  have hg : (w : Int) ≤ (listM m).getLastD 0 := by
    rw [List.getLastD_eq_getLast?, List.getLast?_eq_some_getLast hne, Option.getD_some]
    have hp : (listM m).Pairwise (· < ·) := listN_pair m 7
    obtain ⟨k, hk⟩ := List.mem_iff_getElem?.1 hmem
    obtain ⟨hkl, hke⟩ := List.getElem?_eq_some_iff.1 hk
    rw [List.getLast_eq_getElem, ← hke]
    by_cases hkk : k = (listM m).length - 1
    · subst hkk; exact Int.le_refl _
    · have := List.pairwise_iff_getElem.1 hp k ((listM m).length - 1) hkl (by omega) (by omega)
      omega
  omega
/-- Another weather. -/
def outR (r : Rg) : Bool := !inM r.mn (-50) 100 || !inM r.mx (-50) 100
def harderW (s : Season) (k a z d : Int) : List Rg := raisedN (weatherM s k) a.toNat (z + 1).toNat d
def harderE (s : Season) (k a z d : Int) : Int :=
  if checkM s ≠ 0 then checkM s else if !inM k 1 2 then 8 else if !inM a 0 ((s.heats.length : Int) - 1) then 1 else if !inM z 0 ((s.heats.length : Int) - 1) then 1
  else if a > z then 5 else if !inM d (-150) 150 then 1 else if (harderW s k a z d).any outR then 1 else 0
def noSeason : Season := ⟨[], [], [], []⟩
def harderS (s : Season) (k a z d : Int) : Season := if k = 1 then { s with heats := harderW s k a z d, reports := [] } else { s with damps := harderW s k a z d, reports := [] }
def harderV (s : Season) (k a z d : Int) : Season := if harderE s k a z d = 0 then harderS s k a z d else noSeason
theorem raisedN_twice (l : List Rg) (a z : Nat) (d e : Int) : raisedN (raisedN l a z d) a z e = raisedN l a z (d + e) := by
  apply List.ext_getElem?
  intro i
  rw [raisedN_get, raisedN_get, raisedN_get, Option.map_map]
  cases l[i]? with
  | none => rfl
  | some r =>
    simp only [Option.map_some, Function.comp]
    split
    · simp only [upR]
      congr 2 <;> omega
    · rfl
end Go.Wx
/- Walks: another weather; seasons compared. Conditions: as each theorem states. -/
namespace Go.Proofs.Ytndfkbapoinmkaa
open Go Go.HL Go.Proofs Go.Wx
set_option maxRecDepth 100000
theorem seasonR_none {h : AH} : SeasonR h none none none none noSeason :=
  ⟨⟨fun _ h => (by cases h), Rd.nil _ _⟩, ⟨fun _ h => (by cases h), Rd.nil _ _⟩, ⟨fun _ h => (by cases h), Rd.nil _ _⟩, ⟨fun _ h => (by cases h), Rd.nil _ _⟩⟩
theorem inM_not {x lo hi : Int} (h : (!(decide (lo ≤ x) && decide (x ≤ hi))) = true) : inM x lo hi = false := by
  unfold inM
  cases e : (decide (lo ≤ x) && decide (x ≤ hi)) with
  | false => rfl
  | true => rw [e] at h; cases h
theorem inM_yes {x lo hi : Int} (h : (!(decide (lo ≤ x) && decide (x ≤ hi))) = false) : inM x lo hi = true := by
  unfold inM
  cases e : (decide (lo ≤ x) && decide (x ≤ hi)) with
  | true => rfl
  | false => rw [e] at h; cases h
set_option maxHeartbeats 8000000 in
theorem Harder_ok (s : Season) (Sm : Small s) (kd fr to d : Int) (A0 A1 A2 A3 : Option Addr) (c0 c1 c2 c3 : Nat) (h : AH) (R : SeasonR h A0 A1 A2 A3 s) :
    FnT Try.prog 53 #[seasonV A0 A1 A2 A3 c0 c1 c2 c3 s, .int .i64 kd, .int .i64 fr, .int .i64 to, .int .i64 d] h (fun v h' => ∃ u, v = .tuple #[u, .int .i64 (harderE s kd fr to d)] ∧ SeasonS h' (harderV s kd fr to d) u) := by
  have Sm0 := Sm.h0
  refine call_body Try.func53 rfl Try.ntmps53 rfl ?_
  refine xp_seq ?_
  refine xp_region rfl ?_
  refine op_box (v := .agg #[.slice _ _ _, .slice _ _ _, .slice _ _ _, .slice _ _ _]) (cs := [_, _, _, _]) rfl rfl fun b5 hb5 => ?_
  refine wp_norm [_] rfl ?_
  refine op_alloc (cs := [_, _, _, _]) rfl rfl fun b10 hb10 => ?_
  refine wp_norm [_, _] rfl ?_
  refine op_pure (pv_assign (v := .int .i64 _) rfl) ?_
  refine xp_seq ?_
  refine xp_seq ?_
  refine xp_region rfl ?_
  refine op_loadPA 0 (vs := [.slice _ _ _, .slice _ _ _, .slice _ _ _, .slice _ _ _]) rfl rfl rfl rfl rfl ?_
  refine op_fn (caps := []) (vs := [.agg #[.slice _ _ _, .slice _ _ _, .slice _ _ _, .slice _ _ _]]) rfl rfl rfl (check_ok s A0 A1 A2 A3 c0 c1 c2 c3 h (R.ext (Ext.refl _)) Sm.h0 Sm.h1 Sm.h2 Sm.h3) ?_
  rintro _ h1 E1 rfl
  refine op_pure (pv_assign (v := .int .i64 _) rfl) ?_
  refine xp_seq ?_
  refine xp_region rfl ?_
  refine op_pure (pv_move (v := .int .i64 _) rfl) ?_
  refine op_pure (pv_of (v := .bool _) rfl) ?_
  refine xp_cond rfl (fun hc => ?_) (fun hc => ?_)
  · skip
    have hc0 : checkM s ≠ 0 := by simpa using hc
    have hE : harderE s kd fr to d = checkM s := by rw [harderE, if_pos hc0]
    refine xp_seq ?_
    refine xp_region rfl ?_
    refine op_pure (pv_build (zc := [_, _, _, _]) (vs := []) (cs := [_, _, _, _]) rfl rfl rfl rfl rfl rfl) ?_
    refine op_pure (pv_move (v := .int .i64 _) rfl) ?_
    refine op_storeP 1 (v := .agg #[.slice _ _ _, .slice _ _ _, .slice _ _ _, .slice _ _ _]) (vs := [_, _, _, _]) (c' := [_, _, _, _]) rfl rfl rfl rfl rfl rfl rfl rfl rfl ?_
    refine wp_norm [_, _] rfl ?_
    refine op_pure (pv_assign (v := .int .i64 _) rfl) ?_
    refine xp_ret ?_
    refine res_list (vs := [_, _]) Try.results53 ⟨resV_agg 1 rfl rfl rfl rfl rfl (vs := [.slice _ _ _, .slice _ _ _, .slice _ _ _, .slice _ _ _]) rfl, resV_tmp rfl rfl, trivial⟩ fun V => ?_
    exact ⟨(Ext.trans E1 (ext_wl V)), _, by rw [hE]; rfl, none, none, none, none, 0, 0, 0, 0, by rw [harderV, hE, if_neg hc0]; rfl, by rw [harderV, hE, if_neg hc0]; exact seasonR_none⟩
  · skip
    have hc0 : checkM s = 0 := by simpa using hc
    refine xp_skip ?_
    refine xp_seq ?_
    refine xp_region rfl ?_
    refine op_pure (pv_fieldAddr rfl rfl rfl rfl 0 rfl) ?_
    refine op_loadP 0 (v := .slice _ _ _) rfl rfl rfl rfl ?_
    refine op_pure (pv_len rfl rfl) ?_
    refine op_pure (pv_arith rfl (by omega)) ?_
    refine op_pure (pv_assign (v := .int .i64 _) rfl) ?_
    refine xp_seq ?_
    refine xp_block ?_
    refine xp_seq ?_
    refine xp_region rfl ?_
    refine op_pure (pv_move (v := .int .i64 _) rfl) ?_
    refine op_fn (caps := []) (vs := [.int .i64 _, .int .i64 _, .int .i64 _]) rfl rfl rfl (in_ok _ _ _ h1) ?_
    rintro _ h2 E2 rfl
    refine op_pure (pv_of (v := .bool _) rfl) ?_
    refine op_pure (pv_assign (v := .bool _) rfl) ?_
    refine xp_cond rfl (fun hk => ?_) (fun hk => ?_)
    · skip
      have hkd : inM kd 1 2 = false := inM_not hk
      have hE : harderE s kd fr to d = 8 := by rw [harderE, if_neg (by simp [hc0]), if_pos (by simp [hkd])]
      refine xp_seq ?_
      refine xp_region rfl ?_
      refine op_pure (pv_build (zc := [_, _, _, _]) (vs := []) (cs := [_, _, _, _]) rfl rfl rfl rfl rfl rfl) ?_
      refine op_storeP 1 (v := .agg #[.slice _ _ _, .slice _ _ _, .slice _ _ _, .slice _ _ _]) (vs := [_, _, _, _]) (c' := [_, _, _, _]) rfl rfl rfl rfl rfl rfl rfl rfl rfl ?_
      refine wp_norm [_, _] rfl ?_
      refine op_pure (pv_assign (v := .int .i64 _) rfl) ?_
      refine xp_ret ?_
      refine res_list (vs := [_, _]) Try.results53 ⟨resV_agg 1 rfl rfl rfl rfl rfl (vs := [.slice _ _ _, .slice _ _ _, .slice _ _ _, .slice _ _ _]) rfl, resV_tmp rfl rfl, trivial⟩ fun V => ?_
      exact ⟨(Ext.trans (Ext.trans E1 E2) (ext_wl V)), _, by rw [hE]; rfl, none, none, none, none, 0, 0, 0, 0, by rw [harderV, hE]; rfl, by rw [harderV, hE]; exact seasonR_none⟩
    · skip
      have hkd : inM kd 1 2 = true := inM_yes hk
      refine xp_seq ?_
      refine xp_seq ?_
      refine xp_region rfl ?_
      refine op_pure (pv_move (v := .int .i64 _) rfl) ?_
      refine op_pure (pv_move (v := .int .i64 _) rfl) ?_
      refine op_fn (caps := []) (vs := [.int .i64 _, .int .i64 _, .int .i64 _]) rfl rfl rfl (in_ok _ _ _ h2) ?_
      rintro _ h3' E3' rfl
      refine op_pure (pv_of (v := .bool _) rfl) ?_
      refine op_pure (pv_assign (v := .bool _) rfl) ?_
      refine xp_cond rfl (fun hf => ?_) (fun hf => ?_)
      · skip
        have hfr : inM fr 0 ((s.heats.length : Int) - 1) = false := inM_not hf
        have hE : harderE s kd fr to d = 1 := by rw [harderE, if_neg (by simp [hc0]), if_neg (by simp [hkd]), if_pos (by simp [hfr])]
        refine xp_skip ?_
        refine xp_condT rfl (hf) ?_
        refine xp_seq ?_
        refine xp_region rfl ?_
        refine op_pure (pv_build (zc := [_, _, _, _]) (vs := []) (cs := [_, _, _, _]) rfl rfl rfl rfl rfl rfl) ?_
        refine op_storeP 1 (v := .agg #[.slice _ _ _, .slice _ _ _, .slice _ _ _, .slice _ _ _]) (vs := [_, _, _, _]) (c' := [_, _, _, _]) rfl rfl rfl rfl rfl rfl rfl rfl rfl ?_
        refine wp_norm [_, _] rfl ?_
        refine op_pure (pv_assign (v := .int .i64 _) rfl) ?_
        refine xp_ret ?_
        refine res_list (vs := [_, _]) Try.results53 ⟨resV_agg 1 rfl rfl rfl rfl rfl (vs := [.slice _ _ _, .slice _ _ _, .slice _ _ _, .slice _ _ _]) rfl, resV_tmp rfl rfl, trivial⟩ fun V => ?_
        exact ⟨(Ext.trans (Ext.trans (Ext.trans E1 E2) E3') (ext_wl V)), _, by rw [hE]; rfl, none, none, none, none, 0, 0, 0, 0, by rw [harderV, hE]; rfl, by rw [harderV, hE]; exact seasonR_none⟩
      · skip
        have hfr : inM fr 0 ((s.heats.length : Int) - 1) = true := inM_yes hf
        refine xp_region rfl ?_
        refine op_pure (pv_move (v := .int .i64 _) rfl) ?_
        refine op_pure (pv_move (v := .int .i64 _) rfl) ?_
        refine op_fn (caps := []) (vs := [.int .i64 _, .int .i64 _, .int .i64 _]) rfl rfl rfl (in_ok _ _ _ h3') ?_
        rintro _ h4' E4' rfl
        refine op_pure (pv_of (v := .bool _) rfl) ?_
        refine op_pure (pv_assign (v := .bool _) rfl) ?_
        refine xp_cond rfl (fun ht => ?_) (fun ht => ?_)
        · skip
          have hto : inM to 0 ((s.heats.length : Int) - 1) = false := inM_not ht
          have hE : harderE s kd fr to d = 1 := by rw [harderE, if_neg (by simp [hc0]), if_neg (by simp [hkd]), if_neg (by simp [hfr]), if_pos (by simp [hto])]
          refine xp_seq ?_
          refine xp_region rfl ?_
          refine op_pure (pv_build (zc := [_, _, _, _]) (vs := []) (cs := [_, _, _, _]) rfl rfl rfl rfl rfl rfl) ?_
          refine op_storeP 1 (v := .agg #[.slice _ _ _, .slice _ _ _, .slice _ _ _, .slice _ _ _]) (vs := [_, _, _, _]) (c' := [_, _, _, _]) rfl rfl rfl rfl rfl rfl rfl rfl rfl ?_
          refine wp_norm [_, _] rfl ?_
          refine op_pure (pv_assign (v := .int .i64 _) rfl) ?_
          refine xp_ret ?_
          refine res_list (vs := [_, _]) Try.results53 ⟨resV_agg 1 rfl rfl rfl rfl rfl (vs := [.slice _ _ _, .slice _ _ _, .slice _ _ _, .slice _ _ _]) rfl, resV_tmp rfl rfl, trivial⟩ fun V => ?_
          exact ⟨(Ext.trans (Ext.trans (Ext.trans (Ext.trans E1 E2) E3') E4') (ext_wl V)), _, by rw [hE]; rfl, none, none, none, none, 0, 0, 0, 0, by rw [harderV, hE]; rfl, by rw [harderV, hE]; exact seasonR_none⟩
        · skip
          have hto : inM to 0 ((s.heats.length : Int) - 1) = true := inM_yes ht
          refine xp_seq ?_
          refine xp_region rfl ?_
          refine op_pure (pv_move (v := .int .i64 _) rfl) ?_
          refine op_pure (pv_move (v := .int .i64 _) rfl) ?_
          refine op_pure (pv_of (v := .bool _) rfl) ?_
          refine op_pure (pv_assign (v := .bool _) rfl) ?_
          refine xp_cond rfl (fun hg => ?_) (fun hg => ?_)
          · skip
            have hgt : fr > to := of_decide_eq_true hg
            have hE : harderE s kd fr to d = 5 := by rw [harderE, if_neg (by simp [hc0]), if_neg (by simp [hkd]), if_neg (by simp [hfr]), if_neg (by simp [hto]), if_pos hgt]
            refine xp_seq ?_
            refine xp_region rfl ?_
            refine op_pure (pv_build (zc := [_, _, _, _]) (vs := []) (cs := [_, _, _, _]) rfl rfl rfl rfl rfl rfl) ?_
            refine op_storeP 1 (v := .agg #[.slice _ _ _, .slice _ _ _, .slice _ _ _, .slice _ _ _]) (vs := [_, _, _, _]) (c' := [_, _, _, _]) rfl rfl rfl rfl rfl rfl rfl rfl rfl ?_
            refine wp_norm [_, _] rfl ?_
            refine op_pure (pv_assign (v := .int .i64 _) rfl) ?_
            refine xp_ret ?_
            refine res_list (vs := [_, _]) Try.results53 ⟨resV_agg 1 rfl rfl rfl rfl rfl (vs := [.slice _ _ _, .slice _ _ _, .slice _ _ _, .slice _ _ _]) rfl, resV_tmp rfl rfl, trivial⟩ fun V => ?_
            exact ⟨(Ext.trans (Ext.trans (Ext.trans (Ext.trans E1 E2) E3') E4') (ext_wl V)), _, by rw [hE]; rfl, none, none, none, none, 0, 0, 0, 0, by rw [harderV, hE]; rfl, by rw [harderV, hE]; exact seasonR_none⟩
          · skip
            have hgt : ¬ fr > to := of_decide_eq_false hg
            refine xp_seq ?_
            refine xp_region rfl ?_
            refine op_pure (pv_move (v := .int .i64 _) rfl) ?_
            refine op_fn (caps := []) (vs := [.int .i64 _, .int .i64 _, .int .i64 _]) rfl rfl rfl (in_ok _ _ _ h4') ?_
            rintro _ h5' E5' rfl
            refine op_pure (pv_of (v := .bool _) rfl) ?_
            refine op_pure (pv_assign (v := .bool _) rfl) ?_
            refine xp_cond rfl (fun hb => ?_) (fun hb => ?_)
            · skip
              have hd : inM d (-150) 150 = false := inM_not hb
              have hE : harderE s kd fr to d = 1 := by rw [harderE, if_neg (by simp [hc0]), if_neg (by simp [hkd]), if_neg (by simp [hfr]), if_neg (by simp [hto]), if_neg hgt, if_pos (by simp [hd])]
              refine xp_seq ?_
              refine xp_region rfl ?_
              refine op_pure (pv_build (zc := [_, _, _, _]) (vs := []) (cs := [_, _, _, _]) rfl rfl rfl rfl rfl rfl) ?_
              refine op_storeP 1 (v := .agg #[.slice _ _ _, .slice _ _ _, .slice _ _ _, .slice _ _ _]) (vs := [_, _, _, _]) (c' := [_, _, _, _]) rfl rfl rfl rfl rfl rfl rfl rfl rfl ?_
              refine wp_norm [_, _] rfl ?_
              refine op_pure (pv_assign (v := .int .i64 _) rfl) ?_
              refine xp_ret ?_
              refine res_list (vs := [_, _]) Try.results53 ⟨resV_agg 1 rfl rfl rfl rfl rfl (vs := [.slice _ _ _, .slice _ _ _, .slice _ _ _, .slice _ _ _]) rfl, resV_tmp rfl rfl, trivial⟩ fun V => ?_
              exact ⟨(Ext.trans (Ext.trans (Ext.trans (Ext.trans (Ext.trans E1 E2) E3') E4') E5') (ext_wl V)), _, by rw [hE]; rfl, none, none, none, none, 0, 0, 0, 0, by rw [harderV, hE]; rfl, by rw [harderV, hE]; exact seasonR_none⟩
            · skip
              have hd : inM d (-150) 150 = true := inM_yes hb
              have SV := checkM_zero hc0
              have hw6 := SV.b.w6
              have hw1 := SV.b.w1
              have hdl := SV.b.dl
              have hsj := SV.b.j3
              have hsr := SV.b.rl
              have hdb : -150 ≤ d ∧ d ≤ 150 := by unfold inM at hd; simpa using hd
              obtain ⟨a, rfl, hal⟩ := inM_nat hfr
              obtain ⟨z, rfl, hzl⟩ := inM_nat hto
              have ha := hfr
              have hz := hto
              refine xp_skip ?_
              refine xp_seq ?_
              refine xp_region rfl ?_
              refine op_loadPA 0 (vs := [.slice _ _ _, .slice _ _ _, .slice _ _ _, .slice _ _ _]) rfl rfl rfl rfl rfl ?_
              refine op_fn (caps := []) (vs := [.agg #[.slice _ _ _, .slice _ _ _, .slice _ _ _, .slice _ _ _]]) rfl rfl rfl (clone_ok s A0 A1 A2 A3 c0 c1 c2 c3 h5' (R.ext (Ext.trans (Ext.trans (Ext.trans (Ext.trans E1 E2) E3') E4') E5')) (by omega) (by omega) (by omega) (by omega)) ?_
              rintro _ h3 E3 ⟨B0, B1, B2, B3, d0, d1, d2, d3, rfl, R2⟩
              have hk12 : kd = 1 ∨ kd = 2 := by unfold inM at hkd; simp at hkd; omega
              rcases hk12 with rfl | rfl
              · skip
                refine op_storeP 0 (v := .agg #[.slice _ _ _, .slice _ _ _, .slice _ _ _, .slice _ _ _]) (vs := [_, _, _, _]) (c' := [_, _, _, _]) rfl rfl rfl rfl rfl rfl rfl rfl rfl ?_
                refine wp_norm [_, _] rfl ?_
                refine xp_seq ?_
                refine xp_region rfl ?_
                refine op_pure (pv_fieldAddr rfl rfl rfl rfl 3 rfl) ?_
                refine op_storeP 0 (v := .slice _ _ _) (vs := [_]) (c' := [_, _, _, _]) rfl rfl rfl rfl rfl rfl rfl rfl rfl ?_
                refine wp_norm [_, _] rfl ?_
                refine xp_seq ?_
                refine xp_dw [] rfl rfl rfl ?_
                refine dw_pure (i := 0) rfl (by decide +kernel) (pv_move (v := .int .i64 _) rfl) ?_
                refine dw_load (i := 2) rfl (by decide +kernel) ?_
                refine op_loadPA 0 (vs := [.slice _ _ _, .slice _ _ _, .slice _ _ _, .slice _ _ _]) rfl rfl rfl rfl rfl ?_
                refine dw_pure (i := 4) rfl (by decide +kernel) (pv_move (v := .int .i64 _) rfl) ?_
                refine dw_pure (i := 5) rfl (by decide +kernel) (pv_move (v := .int .i64 _) rfl) ?_
                refine dw_pure (i := 6) rfl (by decide +kernel) (pv_move (v := .int .i64 _) rfl) ?_
                refine dw_eff (i := 1) rfl (by decide +kernel) ?_
                refine op_fn (caps := []) (vs := [.int .i64 _]) rfl rfl rfl (kindOf_ok _ h3) ?_
                rintro _ h4 E4 rfl
                refine ⟨ext_wlm E4 _, ?_⟩
                refine dw_last (i := 3) rfl (by decide +kernel) (by decide +kernel) ?_
                refine op_invoke rfl (by kernel_rfl) rfl rfl (waxWeather_ok (bare s) B0 B1 B2 none d0 d1 d2 0 h4) ?_
                rintro _ h5 E5 rfl
                refine dw_last (i := 7) rfl (by decide +kernel) (by decide +kernel) ?_
                refine op_fnMM [_, _] [] [] rfl rfl rfl (raised_ok s.heats (by omega) (by omega) (fun r hr => by obtain ⟨a1, a2, a3, a4⟩ := SV.b.hb r hr; omega) a (z + 1) (by omega) (by omega) z (by omega) d (by omega) B0 d0 h5 (R2.heats.ext (Ext.trans E4 E5))) ?_
                rintro _ h6 _ E6 ⟨b4, cap4, junk4, rfl, ev⟩
                refine dw_norm [_, _, _] rfl ?_
                have hW : harderW s 1 a z d = raisedN s.heats a (z + 1) d := by unfold harderW weatherM; rw [if_pos rfl]; rw [show ((z : Int) + 1).toNat = z + 1 from by omega, Int.toNat_natCast]
                have hrl := raisedN_len s.heats a (z + 1) d
                obtain ⟨rl, hrle⟩ : ∃ rl, raisedN s.heats a (z + 1) d = rl := ⟨_, rfl⟩
                rw [hrle] at hW hrl ⊢
                rw [← hrl] at ev
                subst ev
                refine dw_pure (i := 8) rfl (by decide +kernel) (pv_assign (v := .slice _ _ _) rfl) ?_
                refine dw_end rfl ?_
                refine xp_seq ?_
                refine xp_seq ?_
                refine xp_region rfl ?_
                refine op_pure (pv_move (v := .slice _ _ _) rfl) ?_
                refine op_pure (pv_len rfl rfl) ?_
                refine op_pure (pv_move (v := .int .i64 _) rfl) ?_
                refine xp_block ?_
                refine xp_loopB [11, 16, 65, 66, 67, 68, 69, 70, 71, 72, 73, 74, 75, 76, 77, 78, 79, 80] 3 (α := Nat) (fun k => [(65, .int .i64 k)]) (fun k => _) (fun k h_k => k ≤ rl.length ∧ (rl.take k).any outR = false) (fun k => rl.length - k) (0) ⟨rfl, trivial⟩ (rfl) (⟨Nat.zero_le _, rfl⟩) ?_
                rintro k T1 h_k E_k J_k
                refine goes_norm [_, _, _] rfl ?_
                obtain ⟨K1, K2⟩ := J_k
                refine xp_seq ?_
                refine xp_region rfl ?_
                refine op_pure (pv_of (v := .bool _) rfl) ?_
                refine xp_seq ?_
                refine xp_cond rfl (fun hk => ?_) (fun hk => ?_)
                · skip
                  have hkl : k < rl.length := ltI hk
                  have hoff : 0 + (k : Int).toNat * 2 = k * 2 := by omega
                  refine xp_skip ?_
                  refine xp_seq ?_
                  refine xp_block ?_
                  refine xp_seq ?_
                  refine xp_region rfl ?_
                  refine op_pure (pv_index rfl rfl rfl rfl (by omega) (by omega)) ?_
                  refine op_loadW (cs := [.int .i64 rl[k].mn, .int .i64 rl[k].mx]) (off := 0 + (k : Int).toNat * 2) rfl rfl rfl rfl (fun V => by rw [hoff]; exact rg_cells (i := 2) rfl V (List.getElem?_eq_getElem hkl)) ?_
                  refine op_alloc (cs := [_, _]) rfl rfl fun b16 hb16 => ?_
                  refine wp_norm [_, _, _, _] rfl ?_
                  refine op_storeP 3 (v := .agg #[.int .i64 _, .int .i64 _]) (vs := [_, _]) (c' := [_, _]) rfl rfl rfl rfl rfl rfl rfl rfl rfl ?_
                  refine wp_norm [_, _, _, _] rfl ?_
                  refine xp_seq ?_
                  refine xp_region rfl ?_
                  refine op_pure (pv_fieldAddr rfl rfl rfl rfl 0 rfl) ?_
                  refine op_loadP 3 (v := .int .i64 _) rfl rfl rfl rfl ?_
                  refine op_fn (caps := []) (vs := [.int .i64 _, .int .i64 _, .int .i64 _]) rfl rfl rfl (in_ok _ _ _ h_k) ?_
                  rintro _ h7 E7 rfl
                  rcases Bool.eq_false_or_eq_true (inM rl[k].mn (-50) 100) with x1 | x1
                  · skip
                    have x1' : (!(decide (-50 ≤ rl[k].mn) && decide (rl[k].mn ≤ 100))) = false := by unfold inM at x1; rw [x1]; rfl
                    refine op_pure (pv_of (v := .bool _) rfl) ?_
                    refine op_pure (pv_move (v := .bool _) rfl) ?_
                    refine guard_yes rfl x1' ?_
                    refine op_pure (pv_fieldAddr rfl rfl rfl rfl 1 rfl) ?_
                    refine guard_yes rfl x1' ?_
                    refine op_loadP 3 (v := .int .i64 _) rfl rfl rfl rfl ?_
                    refine guard_yes rfl x1' ?_
                    refine op_fn (caps := []) (vs := [.int .i64 _, .int .i64 _, .int .i64 _]) rfl rfl rfl (in_ok _ _ _ h7) ?_
                    rintro _ h8 E8 rfl
                    refine guard_yes rfl x1' ?_
                    refine op_pure (pv_of (v := .bool _) rfl) ?_
                    refine op_pure (pv_pickF rfl x1' (v := .bool _) rfl) ?_
                    refine xp_cond rfl (fun x2 => ?_) (fun x2 => ?_)
                    · skip
                      have x2' : inM rl[k].mx (-50) 100 = false := inM_not x2
                      have hany : rl.any outR = true := by rw [List.any_eq_true]; exact ⟨rl[k], List.getElem_mem hkl, by unfold outR; rw [x1, x2']; rfl⟩
                      have hE : harderE s 1 a z d = 1 := by rw [harderE, if_neg (by simp [hc0]), if_neg (by decide), if_neg (by simp [ha]), if_neg (by simp [hz]), if_neg (by omega), if_neg (by simp [hd]), hW, if_pos hany]
                      refine xp_seq ?_
                      refine xp_region rfl ?_
                      refine op_pure (pv_build (zc := [_, _, _, _]) (vs := []) (cs := [_, _, _, _]) rfl rfl rfl rfl rfl rfl) ?_
                      refine op_storeP 1 (v := .agg #[.slice _ _ _, .slice _ _ _, .slice _ _ _, .slice _ _ _]) (vs := [_, _, _, _]) (c' := [_, _, _, _]) rfl rfl rfl rfl rfl rfl rfl rfl rfl ?_
                      refine wp_norm [_, _, _, _] rfl ?_
                      refine op_pure (pv_assign (v := .int .i64 _) rfl) ?_
                      refine xp_ret ?_
                      refine res_list (vs := [_, _]) Try.results53 ⟨resV_agg 1 rfl rfl rfl rfl rfl (vs := [.slice _ _ _, .slice _ _ _, .slice _ _ _, .slice _ _ _]) rfl, resV_tmp rfl rfl, trivial⟩ fun V => ?_
                      exact ⟨(Ext.trans (Ext.trans (Ext.trans (Ext.trans (Ext.trans (Ext.trans (Ext.trans (Ext.trans (Ext.trans (Ext.trans (Ext.trans (Ext.trans E1 E2) E3') E4') E5') E3) E4) E5) E6) E_k) E7) E8) (ext_wl V)), _, by rw [hE]; rfl, none, none, none, none, 0, 0, 0, 0, by rw [harderV, hE]; rfl, by rw [harderV, hE]; exact seasonR_none⟩
                    · skip
                      have x2' : inM rl[k].mx (-50) 100 = true := inM_yes x2
                      refine xp_skip ?_
                      refine xp_region rfl ?_
                      refine op_pure (pv_arith rfl (by omega)) ?_
                      refine op_pure (pv_move (v := .int .i64 _) rfl) ?_
                      refine ⟨k + 1, ⟨rfl, trivial⟩, rfl, rfl, (Ext.trans (Ext.trans E_k E7) E8), fun h3 E3 => ⟨hkl, by rw [take_snoc hkl, List.any_append, K2]; simp [outR, x1, x2']⟩, by first | omega | (dsimp only; omega), ?_⟩
                      repeat (first | exact off_base _ _ _ | refine off_upd (by decide) ?_ | refine off_updL rfl ?_ | refine off_mix rfl ?_)
                  · skip
                    have x1' : (!(decide (-50 ≤ rl[k].mn) && decide (rl[k].mn ≤ 100))) = true := by unfold inM at x1; rw [x1]; rfl
                    have hany : rl.any outR = true := by rw [List.any_eq_true]; exact ⟨rl[k], List.getElem_mem hkl, by unfold outR; rw [x1]; rfl⟩
                    have hE : harderE s 1 a z d = 1 := by rw [harderE, if_neg (by simp [hc0]), if_neg (by decide), if_neg (by simp [ha]), if_neg (by simp [hz]), if_neg (by omega), if_neg (by simp [hd]), hW, if_pos hany]
                    refine op_pure (pv_of (v := .bool _) rfl) ?_
                    refine op_pure (pv_move (v := .bool _) rfl) ?_
                    refine guard_no rfl x1' ?_
                    refine guard_no rfl x1' ?_
                    refine guard_no rfl x1' ?_
                    refine guard_no rfl x1' ?_
                    refine op_pure (pv_pickT rfl x1' (v := .bool _) rfl) ?_
                    refine xp_condT rfl (rfl) ?_
                    refine xp_seq ?_
                    refine xp_region rfl ?_
                    refine op_pure (pv_build (zc := [_, _, _, _]) (vs := []) (cs := [_, _, _, _]) rfl rfl rfl rfl rfl rfl) ?_
                    refine op_storeP 1 (v := .agg #[.slice _ _ _, .slice _ _ _, .slice _ _ _, .slice _ _ _]) (vs := [_, _, _, _]) (c' := [_, _, _, _]) rfl rfl rfl rfl rfl rfl rfl rfl rfl ?_
                    refine wp_norm [_, _, _, _] rfl ?_
                    refine op_pure (pv_assign (v := .int .i64 _) rfl) ?_
                    refine xp_ret ?_
                    refine res_list (vs := [_, _]) Try.results53 ⟨resV_agg 1 rfl rfl rfl rfl rfl (vs := [.slice _ _ _, .slice _ _ _, .slice _ _ _, .slice _ _ _]) rfl, resV_tmp rfl rfl, trivial⟩ fun V => ?_
                    exact ⟨(Ext.trans (Ext.trans (Ext.trans (Ext.trans (Ext.trans (Ext.trans (Ext.trans (Ext.trans (Ext.trans (Ext.trans (Ext.trans E1 E2) E3') E4') E5') E3) E4) E5) E6) E_k) E7) (ext_wl V)), _, by rw [hE]; rfl, none, none, none, none, 0, 0, 0, 0, by rw [harderV, hE]; rfl, by rw [harderV, hE]; exact seasonR_none⟩
                · skip
                  have hke : k = rl.length := by have := geI hk; omega
                  subst hke
                  rw [List.take_length] at K2
                  have hE : harderE s 1 a z d = 0 := by rw [harderE, if_neg (by simp [hc0]), if_neg (by decide), if_neg (by simp [ha]), if_neg (by simp [hz]), if_neg (by omega), if_neg (by simp [hd]), hW, if_neg (by simp [K2])]
                  refine goes_pub 2 rfl ?_
                  intro h9 E9 p9
                  refine xp_exit ?_
                  refine xp_seq ?_
                  refine xp_dw [] rfl rfl rfl ?_
                  refine dw_pure (i := 0) rfl (by decide +kernel) (pv_move (v := .int .i64 _) rfl) ?_
                  refine dw_load (i := 2) rfl (by decide +kernel) ?_
                  refine op_loadPA 0 (vs := [.slice _ _ _, .slice _ _ _, .slice _ _ _, .slice _ _ _]) rfl rfl rfl rfl rfl ?_
                  refine dw_pure (i := 3) rfl (by decide +kernel) (pv_move (v := .slice _ _ _) rfl) ?_
                  refine dw_eff (i := 1) rfl (by decide +kernel) ?_
                  refine op_fn (caps := []) (vs := [.int .i64 _]) rfl rfl rfl (kindOf_ok _ h9) ?_
                  rintro _ h10 E10 rfl
                  refine ⟨ext_wlm E10 _, ?_⟩
                  refine dw_last (i := 4) rfl (by decide +kernel) (by decide +kernel) ?_
                  refine op_invoke rfl (by kernel_rfl) rfl rfl (waxUnder_ok (bare s) B0 B1 B2 none (some ⟨b4, 0, none⟩) d0 d1 d2 0 _ cap4 h10) ?_
                  rintro _ h11 E11 rfl
                  refine dw_last (i := 5) rfl (by decide +kernel) (by decide +kernel) ?_
                  refine op_storeP 1 (v := .agg #[.slice _ _ _, .slice _ _ _, .slice _ _ _, .slice _ _ _]) (vs := [_, _, _, _]) (c' := [_, _, _, _]) rfl rfl rfl rfl rfl rfl rfl rfl rfl ?_
                  refine dw_norm [_, _, _] rfl ?_
                  refine dw_pure (i := 6) rfl (by decide +kernel) (pv_assign (v := .int .i64 _) rfl) ?_
                  refine dw_end rfl ?_
                  refine xp_ret ?_
                  refine res_list (vs := [_, _]) Try.results53 ⟨resV_agg 1 rfl rfl rfl rfl rfl (vs := [.slice _ _ _, .slice _ _ _, .slice _ _ _, .slice _ _ _]) rfl, resV_tmp rfl rfl, trivial⟩ fun V => ?_
                  have hV : harderV s 1 a z d = { s with heats := rl, reports := [] } := by rw [harderV, if_pos hE, harderS, if_pos rfl, hW]
                  exact ⟨(Ext.trans (Ext.trans (Ext.trans (Ext.trans (Ext.trans (Ext.trans (Ext.trans (Ext.trans (Ext.trans (Ext.trans (Ext.trans (Ext.trans (Ext.trans E1 E2) E3') E4') E5') E3) E4) E5) E6) E_k) E9) E10) E11) (ext_wl V)), _, by rw [hE]; rfl, some ⟨b4, 0, none⟩, B1, B2, none, cap4, d1, d2, 0, by rw [hV]; rfl, by rw [hV]; exact ⟨(rg_row p9).ext (Ext.trans (Ext.trans E10 E11) (ext_wl V)), R2.damps.ext (Ext.trans (Ext.trans (Ext.trans (Ext.trans (Ext.trans (Ext.trans (Ext.trans E4 E5) E6) E_k) E9) E10) E11) (ext_wl V)), R2.joints.ext (Ext.trans (Ext.trans (Ext.trans (Ext.trans (Ext.trans (Ext.trans (Ext.trans E4 E5) E6) E_k) E9) E10) E11) (ext_wl V)), ⟨fun _ h => (by cases h), Rd.nil _ _⟩⟩⟩
              · skip
                refine op_storeP 0 (v := .agg #[.slice _ _ _, .slice _ _ _, .slice _ _ _, .slice _ _ _]) (vs := [_, _, _, _]) (c' := [_, _, _, _]) rfl rfl rfl rfl rfl rfl rfl rfl rfl ?_
                refine wp_norm [_, _] rfl ?_
                refine xp_seq ?_
                refine xp_region rfl ?_
                refine op_pure (pv_fieldAddr rfl rfl rfl rfl 3 rfl) ?_
                refine op_storeP 0 (v := .slice _ _ _) (vs := [_]) (c' := [_, _, _, _]) rfl rfl rfl rfl rfl rfl rfl rfl rfl ?_
                refine wp_norm [_, _] rfl ?_
                refine xp_seq ?_
                refine xp_dw [] rfl rfl rfl ?_
                refine dw_pure (i := 0) rfl (by decide +kernel) (pv_move (v := .int .i64 _) rfl) ?_
                refine dw_load (i := 2) rfl (by decide +kernel) ?_
                refine op_loadPA 0 (vs := [.slice _ _ _, .slice _ _ _, .slice _ _ _, .slice _ _ _]) rfl rfl rfl rfl rfl ?_
                refine dw_pure (i := 4) rfl (by decide +kernel) (pv_move (v := .int .i64 _) rfl) ?_
                refine dw_pure (i := 5) rfl (by decide +kernel) (pv_move (v := .int .i64 _) rfl) ?_
                refine dw_pure (i := 6) rfl (by decide +kernel) (pv_move (v := .int .i64 _) rfl) ?_
                refine dw_eff (i := 1) rfl (by decide +kernel) ?_
                refine op_fn (caps := []) (vs := [.int .i64 _]) rfl rfl rfl (kindOf_ok _ h3) ?_
                rintro _ h4 E4 rfl
                refine ⟨ext_wlm E4 _, ?_⟩
                refine dw_last (i := 3) rfl (by decide +kernel) (by decide +kernel) ?_
                refine op_invoke rfl (by kernel_rfl) rfl rfl (leatherWeather_ok (bare s) B0 B1 B2 none d0 d1 d2 0 h4) ?_
                rintro _ h5 E5 rfl
                refine dw_last (i := 7) rfl (by decide +kernel) (by decide +kernel) ?_
                refine op_fnMM [_, _] [] [] rfl rfl rfl (raised_ok s.damps (by omega) (by omega) (fun r hr => by obtain ⟨a1, a2, a3, a4⟩ := SV.b.db r hr; omega) a (z + 1) (by omega) (by omega) z (by omega) d (by omega) B1 d1 h5 (R2.damps.ext (Ext.trans E4 E5))) ?_
                rintro _ h6 _ E6 ⟨b4, cap4, junk4, rfl, ev⟩
                refine dw_norm [_, _, _] rfl ?_
                have hW : harderW s 2 a z d = raisedN s.damps a (z + 1) d := by unfold harderW weatherM; rw [if_neg (by decide)]; rw [show ((z : Int) + 1).toNat = z + 1 from by omega, Int.toNat_natCast]
                have hrl := raisedN_len s.damps a (z + 1) d
                obtain ⟨rl, hrle⟩ : ∃ rl, raisedN s.damps a (z + 1) d = rl := ⟨_, rfl⟩
                rw [hrle] at hW hrl ⊢
                rw [← hrl] at ev
                subst ev
                refine dw_pure (i := 8) rfl (by decide +kernel) (pv_assign (v := .slice _ _ _) rfl) ?_
                refine dw_end rfl ?_
                refine xp_seq ?_
                refine xp_seq ?_
                refine xp_region rfl ?_
                refine op_pure (pv_move (v := .slice _ _ _) rfl) ?_
                refine op_pure (pv_len rfl rfl) ?_
                refine op_pure (pv_move (v := .int .i64 _) rfl) ?_
                refine xp_block ?_
                refine xp_loopB [11, 16, 65, 66, 67, 68, 69, 70, 71, 72, 73, 74, 75, 76, 77, 78, 79, 80] 3 (α := Nat) (fun k => [(65, .int .i64 k)]) (fun k => _) (fun k h_k => k ≤ rl.length ∧ (rl.take k).any outR = false) (fun k => rl.length - k) (0) ⟨rfl, trivial⟩ (rfl) (⟨Nat.zero_le _, rfl⟩) ?_
                rintro k T2 h_k E_k J_k
                refine goes_norm [_, _, _] rfl ?_
                obtain ⟨K1, K2⟩ := J_k
                refine xp_seq ?_
                refine xp_region rfl ?_
                refine op_pure (pv_of (v := .bool _) rfl) ?_
                refine xp_seq ?_
                refine xp_cond rfl (fun hk => ?_) (fun hk => ?_)
                · skip
                  have hkl : k < rl.length := ltI hk
                  have hoff : 0 + (k : Int).toNat * 2 = k * 2 := by omega
                  refine xp_skip ?_
                  refine xp_seq ?_
                  refine xp_block ?_
                  refine xp_seq ?_
                  refine xp_region rfl ?_
                  refine op_pure (pv_index rfl rfl rfl rfl (by omega) (by omega)) ?_
                  refine op_loadW (cs := [.int .i64 rl[k].mn, .int .i64 rl[k].mx]) (off := 0 + (k : Int).toNat * 2) rfl rfl rfl rfl (fun V => by rw [hoff]; exact rg_cells (i := 2) rfl V (List.getElem?_eq_getElem hkl)) ?_
                  refine op_alloc (cs := [_, _]) rfl rfl fun b16_1 hb16_1 => ?_
                  refine wp_norm [_, _, _, _] rfl ?_
                  refine op_storeP 3 (v := .agg #[.int .i64 _, .int .i64 _]) (vs := [_, _]) (c' := [_, _]) rfl rfl rfl rfl rfl rfl rfl rfl rfl ?_
                  refine wp_norm [_, _, _, _] rfl ?_
                  refine xp_seq ?_
                  refine xp_region rfl ?_
                  refine op_pure (pv_fieldAddr rfl rfl rfl rfl 0 rfl) ?_
                  refine op_loadP 3 (v := .int .i64 _) rfl rfl rfl rfl ?_
                  refine op_fn (caps := []) (vs := [.int .i64 _, .int .i64 _, .int .i64 _]) rfl rfl rfl (in_ok _ _ _ h_k) ?_
                  rintro _ h7 E7 rfl
                  rcases Bool.eq_false_or_eq_true (inM rl[k].mn (-50) 100) with x1 | x1
                  · skip
                    have x1' : (!(decide (-50 ≤ rl[k].mn) && decide (rl[k].mn ≤ 100))) = false := by unfold inM at x1; rw [x1]; rfl
                    refine op_pure (pv_of (v := .bool _) rfl) ?_
                    refine op_pure (pv_move (v := .bool _) rfl) ?_
                    refine guard_yes rfl x1' ?_
                    refine op_pure (pv_fieldAddr rfl rfl rfl rfl 1 rfl) ?_
                    refine guard_yes rfl x1' ?_
                    refine op_loadP 3 (v := .int .i64 _) rfl rfl rfl rfl ?_
                    refine guard_yes rfl x1' ?_
                    refine op_fn (caps := []) (vs := [.int .i64 _, .int .i64 _, .int .i64 _]) rfl rfl rfl (in_ok _ _ _ h7) ?_
                    rintro _ h8 E8 rfl
                    refine guard_yes rfl x1' ?_
                    refine op_pure (pv_of (v := .bool _) rfl) ?_
                    refine op_pure (pv_pickF rfl x1' (v := .bool _) rfl) ?_
                    refine xp_cond rfl (fun x2 => ?_) (fun x2 => ?_)
                    · skip
                      have x2' : inM rl[k].mx (-50) 100 = false := inM_not x2
                      have hany : rl.any outR = true := by rw [List.any_eq_true]; exact ⟨rl[k], List.getElem_mem hkl, by unfold outR; rw [x1, x2']; rfl⟩
                      have hE : harderE s 2 a z d = 1 := by rw [harderE, if_neg (by simp [hc0]), if_neg (by decide), if_neg (by simp [ha]), if_neg (by simp [hz]), if_neg (by omega), if_neg (by simp [hd]), hW, if_pos hany]
                      refine xp_seq ?_
                      refine xp_region rfl ?_
                      refine op_pure (pv_build (zc := [_, _, _, _]) (vs := []) (cs := [_, _, _, _]) rfl rfl rfl rfl rfl rfl) ?_
                      refine op_storeP 1 (v := .agg #[.slice _ _ _, .slice _ _ _, .slice _ _ _, .slice _ _ _]) (vs := [_, _, _, _]) (c' := [_, _, _, _]) rfl rfl rfl rfl rfl rfl rfl rfl rfl ?_
                      refine wp_norm [_, _, _, _] rfl ?_
                      refine op_pure (pv_assign (v := .int .i64 _) rfl) ?_
                      refine xp_ret ?_
                      refine res_list (vs := [_, _]) Try.results53 ⟨resV_agg 1 rfl rfl rfl rfl rfl (vs := [.slice _ _ _, .slice _ _ _, .slice _ _ _, .slice _ _ _]) rfl, resV_tmp rfl rfl, trivial⟩ fun V => ?_
                      exact ⟨(Ext.trans (Ext.trans (Ext.trans (Ext.trans (Ext.trans (Ext.trans (Ext.trans (Ext.trans (Ext.trans (Ext.trans (Ext.trans (Ext.trans E1 E2) E3') E4') E5') E3) E4) E5) E6) E_k) E7) E8) (ext_wl V)), _, by rw [hE]; rfl, none, none, none, none, 0, 0, 0, 0, by rw [harderV, hE]; rfl, by rw [harderV, hE]; exact seasonR_none⟩
                    · skip
                      have x2' : inM rl[k].mx (-50) 100 = true := inM_yes x2
                      refine xp_skip ?_
                      refine xp_region rfl ?_
                      refine op_pure (pv_arith rfl (by omega)) ?_
                      refine op_pure (pv_move (v := .int .i64 _) rfl) ?_
                      refine ⟨k + 1, ⟨rfl, trivial⟩, rfl, rfl, (Ext.trans (Ext.trans E_k E7) E8), fun h3 E3 => ⟨hkl, by rw [take_snoc hkl, List.any_append, K2]; simp [outR, x1, x2']⟩, by first | omega | (dsimp only; omega), ?_⟩
                      repeat (first | exact off_base _ _ _ | refine off_upd (by decide) ?_ | refine off_updL rfl ?_ | refine off_mix rfl ?_)
                  · skip
                    have x1' : (!(decide (-50 ≤ rl[k].mn) && decide (rl[k].mn ≤ 100))) = true := by unfold inM at x1; rw [x1]; rfl
                    have hany : rl.any outR = true := by rw [List.any_eq_true]; exact ⟨rl[k], List.getElem_mem hkl, by unfold outR; rw [x1]; rfl⟩
                    have hE : harderE s 2 a z d = 1 := by rw [harderE, if_neg (by simp [hc0]), if_neg (by decide), if_neg (by simp [ha]), if_neg (by simp [hz]), if_neg (by omega), if_neg (by simp [hd]), hW, if_pos hany]
                    refine op_pure (pv_of (v := .bool _) rfl) ?_
                    refine op_pure (pv_move (v := .bool _) rfl) ?_
                    refine guard_no rfl x1' ?_
                    refine guard_no rfl x1' ?_
                    refine guard_no rfl x1' ?_
                    refine guard_no rfl x1' ?_
                    refine op_pure (pv_pickT rfl x1' (v := .bool _) rfl) ?_
                    refine xp_condT rfl (rfl) ?_
                    refine xp_seq ?_
                    refine xp_region rfl ?_
                    refine op_pure (pv_build (zc := [_, _, _, _]) (vs := []) (cs := [_, _, _, _]) rfl rfl rfl rfl rfl rfl) ?_
                    refine op_storeP 1 (v := .agg #[.slice _ _ _, .slice _ _ _, .slice _ _ _, .slice _ _ _]) (vs := [_, _, _, _]) (c' := [_, _, _, _]) rfl rfl rfl rfl rfl rfl rfl rfl rfl ?_
                    refine wp_norm [_, _, _, _] rfl ?_
                    refine op_pure (pv_assign (v := .int .i64 _) rfl) ?_
                    refine xp_ret ?_
                    refine res_list (vs := [_, _]) Try.results53 ⟨resV_agg 1 rfl rfl rfl rfl rfl (vs := [.slice _ _ _, .slice _ _ _, .slice _ _ _, .slice _ _ _]) rfl, resV_tmp rfl rfl, trivial⟩ fun V => ?_
                    exact ⟨(Ext.trans (Ext.trans (Ext.trans (Ext.trans (Ext.trans (Ext.trans (Ext.trans (Ext.trans (Ext.trans (Ext.trans (Ext.trans E1 E2) E3') E4') E5') E3) E4) E5) E6) E_k) E7) (ext_wl V)), _, by rw [hE]; rfl, none, none, none, none, 0, 0, 0, 0, by rw [harderV, hE]; rfl, by rw [harderV, hE]; exact seasonR_none⟩
                · skip
                  have hke : k = rl.length := by have := geI hk; omega
                  subst hke
                  rw [List.take_length] at K2
                  have hE : harderE s 2 a z d = 0 := by rw [harderE, if_neg (by simp [hc0]), if_neg (by decide), if_neg (by simp [ha]), if_neg (by simp [hz]), if_neg (by omega), if_neg (by simp [hd]), hW, if_neg (by simp [K2])]
                  refine goes_pub 2 rfl ?_
                  intro h9 E9 p9
                  refine xp_exit ?_
                  refine xp_seq ?_
                  refine xp_dw [] rfl rfl rfl ?_
                  refine dw_pure (i := 0) rfl (by decide +kernel) (pv_move (v := .int .i64 _) rfl) ?_
                  refine dw_load (i := 2) rfl (by decide +kernel) ?_
                  refine op_loadPA 0 (vs := [.slice _ _ _, .slice _ _ _, .slice _ _ _, .slice _ _ _]) rfl rfl rfl rfl rfl ?_
                  refine dw_pure (i := 3) rfl (by decide +kernel) (pv_move (v := .slice _ _ _) rfl) ?_
                  refine dw_eff (i := 1) rfl (by decide +kernel) ?_
                  refine op_fn (caps := []) (vs := [.int .i64 _]) rfl rfl rfl (kindOf_ok _ h9) ?_
                  rintro _ h10 E10 rfl
                  refine ⟨ext_wlm E10 _, ?_⟩
                  refine dw_last (i := 4) rfl (by decide +kernel) (by decide +kernel) ?_
                  refine op_invoke rfl (by kernel_rfl) rfl rfl (leatherUnder_ok (bare s) B0 B1 B2 none (some ⟨b4, 0, none⟩) d0 d1 d2 0 _ cap4 h10) ?_
                  rintro _ h11 E11 rfl
                  refine dw_last (i := 5) rfl (by decide +kernel) (by decide +kernel) ?_
                  refine op_storeP 1 (v := .agg #[.slice _ _ _, .slice _ _ _, .slice _ _ _, .slice _ _ _]) (vs := [_, _, _, _]) (c' := [_, _, _, _]) rfl rfl rfl rfl rfl rfl rfl rfl rfl ?_
                  refine dw_norm [_, _, _] rfl ?_
                  refine dw_pure (i := 6) rfl (by decide +kernel) (pv_assign (v := .int .i64 _) rfl) ?_
                  refine dw_end rfl ?_
                  refine xp_ret ?_
                  refine res_list (vs := [_, _]) Try.results53 ⟨resV_agg 1 rfl rfl rfl rfl rfl (vs := [.slice _ _ _, .slice _ _ _, .slice _ _ _, .slice _ _ _]) rfl, resV_tmp rfl rfl, trivial⟩ fun V => ?_
                  have hV : harderV s 2 a z d = { s with damps := rl, reports := [] } := by rw [harderV, if_pos hE, harderS, if_neg (by decide), hW]
                  exact ⟨(Ext.trans (Ext.trans (Ext.trans (Ext.trans (Ext.trans (Ext.trans (Ext.trans (Ext.trans (Ext.trans (Ext.trans (Ext.trans (Ext.trans (Ext.trans E1 E2) E3') E4') E5') E3) E4) E5) E6) E_k) E9) E10) E11) (ext_wl V)), _, by rw [hE]; rfl, B0, some ⟨b4, 0, none⟩, B2, none, d0, cap4, d2, 0, by rw [hV]; rfl, by rw [hV]; exact ⟨R2.heats.ext (Ext.trans (Ext.trans (Ext.trans (Ext.trans (Ext.trans (Ext.trans (Ext.trans E4 E5) E6) E_k) E9) E10) E11) (ext_wl V)), (rg_row p9).ext (Ext.trans (Ext.trans E10 E11) (ext_wl V)), R2.joints.ext (Ext.trans (Ext.trans (Ext.trans (Ext.trans (Ext.trans (Ext.trans (Ext.trans E4 E5) E6) E_k) E9) E10) E11) (ext_wl V)), ⟨fun _ h => (by cases h), Rd.nil _ _⟩⟩⟩
end Go.Proofs.Ytndfkbapoinmkaa
/- Walks: seasons compared. Conditions: as each theorem states. -/
namespace Go.Proofs.Ytndfkbapoinmkaa
open Go Go.HL Go.Proofs Go.Wx
set_option maxRecDepth 100000
theorem rgEqD (d : Nat) (a b : Rg) : pev Try.prog (Op.equalIn (d + 2) 51 (.agg #[.int .i64 a.mn, .int .i64 a.mx]) (.agg #[.int .i64 b.mn, .int .i64 b.mx])) = some (decide (a = b)) := by
  have h1 := eq_struct (P := Try.prog) (t := 51) (d := d + 1) (fs := [_, _]) (xs := #[.int .i64 a.mn, .int .i64 a.mx]) (ys := #[.int .i64 b.mn, .int .i64 b.mx]) (rs := [a.mn == b.mn, a.mx == b.mx]) rfl (by kernel_rfl) rfl ?_
  · refine h1.trans ?_
    obtain ⟨a1, a2⟩ := a
    obtain ⟨b1, b2⟩ := b
    simp only [List.all_cons, List.all_nil, id, Bool.and_true, Option.some.injEq]
    rw [Bool.eq_iff_iff]
    simp
  · intro i f r hf hr
    match i, hf, hr with
    | 0, hf, hr => cases hf; cases hr; exact ⟨by decide, _, _, rfl, rfl, eq_int rfl _ _⟩
    | 1, hf, hr => cases hf; cases hr; exact ⟨by decide, _, _, rfl, rfl, eq_int rfl _ _⟩
    | i + 2, hf, hr => simp at hf
theorem rgEq (a b : Rg) : pev Try.prog (Op.equalIn Op.maxDepth 51 (.agg (rgC a).toArray) (.agg (rgC b).toArray)) = some (decide (a = b)) := rgEqD 9998 a b
theorem jointEq (a b : Joint) : pev Try.prog (Op.equalIn Op.maxDepth 53 (.agg (jointC a).toArray) (.agg (jointC b).toArray)) = some (decide (a = b)) := by
  have h1 := eq_struct (P := Try.prog) (t := 53) (d := 9999) (fs := [_, _, _, _, _]) (xs := (jointC a).toArray) (ys := (jointC b).toArray) (rs := [a.kind == b.kind, decide (a.high = b.high), decide (a.low = b.low), decide (a.weeks = b.weeks), decide (a.life = b.life)]) rfl (by kernel_rfl) rfl ?_
  · refine h1.trans ?_
    obtain ⟨a1, a2, a3, a4, a5⟩ := a
    obtain ⟨b1, b2, b3, b4, b5⟩ := b
    simp only [List.all_cons, List.all_nil, id, Bool.and_true, Option.some.injEq]
    rw [Bool.eq_iff_iff]
    simp
  · intro i f r hf hr
    match i, hf, hr with
    | 0, hf, hr => cases hf; cases hr; exact ⟨by decide, _, _, rfl, rfl, eq_int rfl _ _⟩
    | 1, hf, hr => cases hf; cases hr; exact ⟨by decide, _, _, rfl, rfl, rgEqD 9997 _ _⟩
    | 2, hf, hr => cases hf; cases hr; exact ⟨by decide, _, _, rfl, rfl, rgEqD 9997 _ _⟩
    | 3, hf, hr => cases hf; cases hr; exact ⟨by decide, _, _, rfl, rfl, rgEqD 9997 _ _⟩
    | 4, hf, hr => cases hf; cases hr; exact ⟨by decide, _, _, rfl, rfl, rgEqD 9997 _ _⟩
    | i + 5, hf, hr => simp at hf
theorem seenEq (a b : Seen) : pev Try.prog (Op.equalIn Op.maxDepth 56 (.agg (seenC a).toArray) (.agg (seenC b).toArray)) = some (decide (a = b)) := by
  have h1 := eq_struct (P := Try.prog) (t := 56) (d := 9999) (fs := [_, _, _]) (xs := (seenC a).toArray) (ys := (seenC b).toArray) (rs := [a.joint == b.joint, a.week == b.week, a.failed == b.failed]) rfl (by kernel_rfl) rfl ?_
  · refine h1.trans ?_
    obtain ⟨a1, a2, a3⟩ := a
    obtain ⟨b1, b2, b3⟩ := b
    simp only [List.all_cons, List.all_nil, id, Bool.and_true, Option.some.injEq]
    rw [Bool.eq_iff_iff]
    simp [and_assoc]
  · intro i f r hf hr
    match i, hf, hr with
    | 0, hf, hr => cases hf; cases hr; exact ⟨by decide, _, _, rfl, rfl, eq_int rfl _ _⟩
    | 1, hf, hr => cases hf; cases hr; exact ⟨by decide, _, _, rfl, rfl, eq_int rfl _ _⟩
    | 2, hf, hr => cases hf; cases hr; exact ⟨by decide, _, _, rfl, rfl, eq_bool rfl _ _⟩
    | i + 3, hf, hr => simp at hf
/-- Whether two lists are the same up to a place. -/
def sameN {α : Type} [DecidableEq α] (p : Bool) (a b : List α) (k : Nat) : Bool := p && decide (a.take k = b.take k)
theorem sameN_zero {α : Type} [DecidableEq α] (p : Bool) (a b : List α) : sameN p a b 0 = p := by simp [sameN]
theorem sameN_succ {α : Type} [DecidableEq α] {a b : List α} {k : Nat} (ha : k < a.length) (hb : k < b.length) (h : sameN true a b k = true) : sameN true a b (k + 1) = decide (a[k] = b[k]) := by
  unfold sameN at h ⊢
  simp only [Bool.true_and, decide_eq_true_eq] at h
  rw [Bool.true_and, take_snoc ha, take_snoc hb, h, decide_eq_decide]
  constructor
  · intro e
    have := List.append_cancel_left e
    injection this
  · intro e; rw [e]
theorem sameN_all {α : Type} [DecidableEq α] {a b : List α} (hl : a.length = b.length) (p : Bool) : sameN p a b a.length = (p && decide (a = b)) := by
  unfold sameN
  rw [List.take_length, hl, List.take_length]
theorem sameN_no {α : Type} [DecidableEq α] {a b : List α} {k : Nat} {p : Bool} (h : sameN p a b k = false) : (p && decide (a = b)) = false := by
  unfold sameN at h
  cases p with
  | false => rfl
  | true =>
    rw [Bool.true_and, decide_eq_false_iff_not] at h ⊢
    intro e; rw [e] at h; exact h rfl
theorem sameRanges_ok (a b : List Rg) (A B : Option Addr) (ca cb : Nat) (h : AH) (Ra : Row h 2 rgC A a) (Rb : Row h 2 rgC B b) (ha : a.length < 2 ^ 40) :
    FnT Try.prog 52 #[.slice A a.length ca, .slice B b.length cb] h (fun v _ => v = .bool (decide (a = b))) := by
  refine call_body Try.func52 rfl Try.ntmps52 rfl ?_
  refine xp_seq ?_
  refine xp_region rfl ?_
  refine op_pure (pv_assign (v := .bool _) rfl) ?_
  refine xp_seq ?_
  refine xp_region rfl ?_
  refine op_pure (pv_move (v := .slice _ _ _) rfl) ?_
  refine op_pure (pv_len rfl rfl) ?_
  refine op_pure (pv_move (v := .slice _ _ _) rfl) ?_
  refine op_pure (pv_len rfl rfl) ?_
  refine op_pure (pv_of (v := .bool _) rfl) ?_
  refine op_pure (pv_assign (v := .bool _) rfl) ?_
  refine xp_seq ?_
  refine xp_seq ?_
  refine xp_region rfl ?_
  refine op_pure (pv_assign (v := .int .i64 _) rfl) ?_
  refine xp_block ?_
  obtain ⟨p, hp⟩ : ∃ p, decide (a.length = b.length) = p := ⟨_, rfl⟩
  have hp' : Value.bool ((a.length : Int) == (b.length : Int)) = .bool p := by rw [natBeq, hp]
  refine xp_loopB [5, 6, 12, 13, 14, 15, 16, 17, 18, 19, 20, 21, 22, 23, 24, 25, 26, 27, 28, 29] 0 (α := Nat) (fun k => [(5, .bool (sameN p a b k)), (6, .int .i64 k)]) (fun k => _) (fun k h_k => k ≤ a.length) (fun k => a.length - k) (0) ⟨(by rw [sameN_zero]; exact hp'), rfl, trivial⟩ (rfl) (Nat.zero_le _) ?_
  rintro k T1 h_k E_k J_k
  refine goes_norm [] rfl ?_
  obtain ⟨q, hq⟩ : ∃ q, sameN p a b k = q := ⟨_, rfl⟩
  rw [hq]
  cases q with
  | false =>
    refine xp_seq ?_
    refine xp_seq ?_
    refine xp_region rfl ?_
    refine op_pure (pv_move (v := .bool _) rfl) ?_
    refine op_pure (pv_move (v := .bool _) rfl) ?_
    refine guard_no rfl rfl ?_
    refine guard_no rfl rfl ?_
    refine guard_no rfl rfl ?_
    refine guard_no rfl rfl ?_
    refine op_pure (pv_pickF rfl rfl (v := .bool _) rfl) ?_
    refine xp_condF rfl (rfl) ?_
    refine xp_exit ?_
    refine xp_seq ?_
    refine xp_region rfl ?_
    refine op_pure (pv_move (v := .bool _) rfl) ?_
    refine op_pure (pv_assign (v := .bool _) rfl) ?_
    refine xp_ret ?_
    refine res_list (vs := [_]) Try.results52 ⟨resV_tmp rfl rfl, trivial⟩ fun V => ?_
    exact ⟨(Ext.trans E_k (ext_wl V)), congrArg Value.bool (by have e := sameN_no hq; rw [← hp] at e; cases hd : decide (a = b) with | false => rfl | true => rw [hd] at e; have := of_decide_eq_true hd; subst this; simp at e)⟩
  | true =>
    have hpt : p = true := by cases p with | true => rfl | false => cases hq
    subst hpt
    have hlen : a.length = b.length := of_decide_eq_true hp
    refine xp_seq ?_
    refine xp_seq ?_
    refine xp_region rfl ?_
    refine op_pure (pv_move (v := .bool _) rfl) ?_
    refine op_pure (pv_move (v := .bool _) rfl) ?_
    refine guard_yes rfl rfl ?_
    refine op_pure (pv_move (v := .int .i64 _) rfl) ?_
    refine guard_yes rfl rfl ?_
    refine op_pure (pv_move (v := .slice _ _ _) rfl) ?_
    refine guard_yes rfl rfl ?_
    refine op_pure (pv_len rfl rfl) ?_
    refine guard_yes rfl rfl ?_
    refine op_pure (pv_of (v := .bool _) rfl) ?_
    refine op_pure (pv_pickT rfl rfl (v := .bool _) rfl) ?_
    refine xp_cond rfl (fun ht => ?_) (fun ht => ?_)
    · skip
      have hlt : k < a.length := ltI ht
      have hlt2 : k < b.length := by omega
      obtain ⟨g, off, hA, hc⟩ := (Ra.ext E_k).at (by omega) hlt
      obtain ⟨g2, off2, hB, hc2⟩ := (Rb.ext E_k).at (by omega) hlt2
      refine xp_skip ?_
      refine xp_seq ?_
      refine xp_block ?_
      refine xp_dw [] rfl rfl rfl ?_
      refine dw_pure (i := 0) rfl (by decide +kernel) (pv_move (v := .slice _ _ _) rfl) ?_
      refine dw_pure (i := 1) rfl (by decide +kernel) (pv_move (v := .int .i64 _) rfl) ?_
      refine dw_pure (i := 2) rfl (by decide +kernel) (pv_indexE rfl hA rfl rfl rfl (by omega) (by omega)) ?_
      refine dw_load (i := 3) rfl (by decide +kernel) ?_
      refine op_loadA rfl rfl rfl rfl (hc) ?_
      refine dw_pure (i := 4) rfl (by decide +kernel) (pv_move (v := .slice _ _ _) rfl) ?_
      refine dw_pure (i := 5) rfl (by decide +kernel) (pv_move (v := .int .i64 _) rfl) ?_
      refine dw_pure (i := 6) rfl (by decide +kernel) (pv_indexE rfl hB rfl rfl rfl (by omega) (by omega)) ?_
      refine dw_load (i := 7) rfl (by decide +kernel) ?_
      refine op_loadA rfl rfl rfl rfl (hc2) ?_
      refine dw_pure (i := 8) rfl (by decide +kernel) (pv_eqA rfl rfl (by kernel_rfl) (rgEq _ _)) ?_
      refine dw_pure (i := 9) rfl (by decide +kernel) (pv_assign (v := .bool _) rfl) ?_
      refine dw_end rfl ?_
      refine xp_region rfl ?_
      refine op_pure (pv_move (v := .int .i64 _) rfl) ?_
      refine op_pure (pv_arith rfl (by omega)) ?_
      refine op_pure (pv_assign (v := .int .i64 _) rfl) ?_
      refine ⟨k + 1, ⟨(by rw [sameN_succ hlt hlt2 hq]; rfl), rfl, trivial⟩, rfl, rfl, E_k, fun h3 E3 => hlt, by first | omega | (dsimp only; omega), ?_⟩
      repeat (first | exact off_base _ _ _ | refine off_upd (by decide) ?_ | refine off_updL rfl ?_ | refine off_mix rfl ?_)
    · skip
      have hke : k = a.length := by have := geI ht; omega
      subst hke
      refine xp_exit ?_
      refine xp_seq ?_
      refine xp_region rfl ?_
      refine op_pure (pv_move (v := .bool _) rfl) ?_
      refine op_pure (pv_assign (v := .bool _) rfl) ?_
      refine xp_ret ?_
      refine res_list (vs := [_]) Try.results52 ⟨resV_tmp rfl rfl, trivial⟩ fun V => ?_
      exact ⟨(Ext.trans E_k (ext_wl V)), congrArg Value.bool (by rw [sameN_all hlen] at hq; rw [← hq]; rfl)⟩
structure PreS (a b : Season) (p : Bool) : Prop where
  no : p = false → a ≠ b
  yes : p = true → a.heats = b.heats ∧ a.damps = b.damps ∧ a.joints.length = b.joints.length ∧ a.reports.length = b.reports.length
set_option maxHeartbeats 2000000 in
theorem sameSeasons_ok (a b : Season) (A0 A1 A2 A3 B0 B1 B2 B3 : Option Addr) (c0 c1 c2 c3 d0 d1 d2 d3 : Nat) (h : AH) (Ra : SeasonR h A0 A1 A2 A3 a) (Rb : SeasonR h B0 B1 B2 B3 b) (h0 : a.heats.length < 2 ^ 40) (h1 : a.damps.length < 2 ^ 40) (h2 : a.joints.length < 2 ^ 40) (h3 : a.reports.length < 2 ^ 40) :
    FnT Try.prog 31 #[seasonV A0 A1 A2 A3 c0 c1 c2 c3 a, seasonV B0 B1 B2 B3 d0 d1 d2 d3 b] h (fun v _ => v = .bool (decide (a = b))) := by
  refine call_body Try.func31 rfl Try.ntmps31 rfl ?_
  refine xp_seq ?_
  refine xp_region rfl ?_
  refine op_box (v := .agg #[.slice _ _ _, .slice _ _ _, .slice _ _ _, .slice _ _ _]) (cs := [_, _, _, _]) rfl rfl fun b2 hb2 => ?_
  refine wp_norm [_] rfl ?_
  refine op_box (v := .agg #[.slice _ _ _, .slice _ _ _, .slice _ _ _, .slice _ _ _]) (cs := [_, _, _, _]) rfl rfl fun b3 hb3 => ?_
  refine wp_norm [_, _] rfl ?_
  refine op_pure (pv_assign (v := .bool _) rfl) ?_
  refine xp_cutB [5, 8, 9, 10, 11, 12, 13, 14, 15, 16, 17, 18, 19, 20, 21, 22, 23, 24, 25, 26, 27, 28, 29, 30, 31, 32, 33, 34, 35, 36, 37] 2 (α := Bool) (fun p => [(5, .bool p)]) (fun p L => L) (fun p h_p => PreS a b p) ?_ ?_
  · skip
    refine xp_region rfl ?_
    refine op_pure (pv_fieldAddr rfl rfl rfl rfl 0 rfl) ?_
    refine op_loadP 0 (v := .slice _ _ _) rfl rfl rfl rfl ?_
    refine op_pure (pv_fieldAddr rfl rfl rfl rfl 0 rfl) ?_
    refine op_loadP 1 (v := .slice _ _ _) rfl rfl rfl rfl ?_
    have HS := sameRanges_ok a.heats b.heats A0 B0 c0 d0 h (Ra.heats.ext (Ext.refl _)) (Rb.heats.ext (Ext.refl _)) h0
    rcases Bool.eq_false_or_eq_true (decide (a.heats = b.heats)) with e1 | e1
    · skip
      rw [e1] at HS
      have f1 := of_decide_eq_true e1
      refine op_fn (caps := []) (vs := [.slice _ _ _, .slice _ _ _]) rfl rfl rfl (HS) ?_
      rintro _ g1 E1 rfl
      refine op_pure (pv_move (v := .bool _) rfl) ?_
      refine guard_yes rfl rfl ?_
      refine op_pure (pv_fieldAddr rfl rfl rfl rfl 1 rfl) ?_
      refine guard_yes rfl rfl ?_
      refine op_loadP 0 (v := .slice _ _ _) rfl rfl rfl rfl ?_
      refine guard_yes rfl rfl ?_
      refine op_pure (pv_fieldAddr rfl rfl rfl rfl 1 rfl) ?_
      refine guard_yes rfl rfl ?_
      refine op_loadP 1 (v := .slice _ _ _) rfl rfl rfl rfl ?_
      refine guard_yes rfl rfl ?_
      have HD := sameRanges_ok a.damps b.damps A1 B1 c1 d1 g1 (Ra.damps.ext E1) (Rb.damps.ext E1) h1
      rcases Bool.eq_false_or_eq_true (decide (a.damps = b.damps)) with e2 | e2
      · skip
        rw [e2] at HD
        have f2 := of_decide_eq_true e2
        refine op_fn (caps := []) (vs := [.slice _ _ _, .slice _ _ _]) rfl rfl rfl (HD) ?_
        rintro _ g2 E2 rfl
        rcases Bool.eq_false_or_eq_true ((a.joints.length : Int) == (b.joints.length : Int)) with e3 | e3
        · skip
          have f3 : a.joints.length = b.joints.length := by simpa [natBeq] using e3
          refine op_pure (pv_pickT rfl rfl (v := .bool _) rfl) ?_
          refine op_pure (pv_move (v := .bool _) rfl) ?_
          refine guard_yes rfl rfl ?_
          refine op_pure (pv_fieldAddr rfl rfl rfl rfl 2 rfl) ?_
          refine guard_yes rfl rfl ?_
          refine op_loadP 0 (v := .slice _ _ _) rfl rfl rfl rfl ?_
          refine guard_yes rfl rfl ?_
          refine op_pure (pv_len rfl rfl) ?_
          refine guard_yes rfl rfl ?_
          refine op_pure (pv_fieldAddr rfl rfl rfl rfl 2 rfl) ?_
          refine guard_yes rfl rfl ?_
          refine op_loadP 1 (v := .slice _ _ _) rfl rfl rfl rfl ?_
          refine guard_yes rfl rfl ?_
          refine op_pure (pv_len rfl rfl) ?_
          refine guard_yes rfl rfl ?_
          refine op_pure (pv_of (v := .bool _) rfl) ?_
          refine op_pure (pv_pickT rfl rfl (v := .bool _) rfl) ?_
          refine op_pure (pv_move (v := .bool _) rfl) ?_
          refine guard_yes rfl e3 ?_
          refine op_pure (pv_fieldAddr rfl rfl rfl rfl 3 rfl) ?_
          refine guard_yes rfl e3 ?_
          refine op_loadP 0 (v := .slice _ _ _) rfl rfl rfl rfl ?_
          refine guard_yes rfl e3 ?_
          refine op_pure (pv_len rfl rfl) ?_
          refine guard_yes rfl e3 ?_
          refine op_pure (pv_fieldAddr rfl rfl rfl rfl 3 rfl) ?_
          refine guard_yes rfl e3 ?_
          refine op_loadP 1 (v := .slice _ _ _) rfl rfl rfl rfl ?_
          refine guard_yes rfl e3 ?_
          refine op_pure (pv_len rfl rfl) ?_
          refine guard_yes rfl e3 ?_
          refine op_pure (pv_of (v := .bool _) rfl) ?_
          refine op_pure (pv_pickT rfl e3 (v := .bool _) rfl) ?_
          refine op_pure (pv_assign (v := .bool _) rfl) ?_
          refine ⟨((a.reports.length : Int) == (b.reports.length : Int)), ⟨rfl, trivial⟩, rfl, rfl, (Ext.trans E1 E2), fun h3 E3 => ⟨fun e hh => by subst hh; simp at e, fun e => ⟨f1, f2, f3, by simpa [natBeq] using e⟩⟩, ?_⟩
          repeat (first | exact off_refl _ _ | exact off_base _ _ _ | refine off_upd (by decide) ?_ | refine off_updL rfl ?_ | refine off_mix rfl ?_)
        · skip
          refine op_pure (pv_pickT rfl rfl (v := .bool _) rfl) ?_
          refine op_pure (pv_move (v := .bool _) rfl) ?_
          refine guard_yes rfl rfl ?_
          refine op_pure (pv_fieldAddr rfl rfl rfl rfl 2 rfl) ?_
          refine guard_yes rfl rfl ?_
          refine op_loadP 0 (v := .slice _ _ _) rfl rfl rfl rfl ?_
          refine guard_yes rfl rfl ?_
          refine op_pure (pv_len rfl rfl) ?_
          refine guard_yes rfl rfl ?_
          refine op_pure (pv_fieldAddr rfl rfl rfl rfl 2 rfl) ?_
          refine guard_yes rfl rfl ?_
          refine op_loadP 1 (v := .slice _ _ _) rfl rfl rfl rfl ?_
          refine guard_yes rfl rfl ?_
          refine op_pure (pv_len rfl rfl) ?_
          refine guard_yes rfl rfl ?_
          refine op_pure (pv_of (v := .bool _) rfl) ?_
          refine op_pure (pv_pickT rfl rfl (v := .bool _) rfl) ?_
          refine op_pure (pv_move (v := .bool _) rfl) ?_
          refine guard_no rfl e3 ?_
          refine guard_no rfl e3 ?_
          refine guard_no rfl e3 ?_
          refine guard_no rfl e3 ?_
          refine guard_no rfl e3 ?_
          refine guard_no rfl e3 ?_
          refine guard_no rfl e3 ?_
          refine op_pure (pv_pickF rfl e3 (v := .bool _) rfl) ?_
          refine op_pure (pv_assign (v := .bool _) rfl) ?_
          refine ⟨false, ⟨rfl, trivial⟩, rfl, rfl, (Ext.trans E1 E2), fun h3 E3 => ⟨fun _ hh => by subst hh; simp at e3, fun e => (by cases e)⟩, ?_⟩
          repeat (first | exact off_refl _ _ | exact off_base _ _ _ | refine off_upd (by decide) ?_ | refine off_updL rfl ?_ | refine off_mix rfl ?_)
      · skip
        rw [e2] at HD
        refine op_fn (caps := []) (vs := [.slice _ _ _, .slice _ _ _]) rfl rfl rfl (HD) ?_
        rintro _ g2 E2 rfl
        refine op_pure (pv_pickT rfl rfl (v := .bool _) rfl) ?_
        refine op_pure (pv_move (v := .bool _) rfl) ?_
        refine guard_no rfl rfl ?_
        refine guard_no rfl rfl ?_
        refine guard_no rfl rfl ?_
        refine guard_no rfl rfl ?_
        refine guard_no rfl rfl ?_
        refine guard_no rfl rfl ?_
        refine guard_no rfl rfl ?_
        refine op_pure (pv_pickF rfl rfl (v := .bool _) rfl) ?_
        refine op_pure (pv_move (v := .bool _) rfl) ?_
        refine guard_no rfl rfl ?_
        refine guard_no rfl rfl ?_
        refine guard_no rfl rfl ?_
        refine guard_no rfl rfl ?_
        refine guard_no rfl rfl ?_
        refine guard_no rfl rfl ?_
        refine guard_no rfl rfl ?_
        refine op_pure (pv_pickF rfl rfl (v := .bool _) rfl) ?_
        refine op_pure (pv_assign (v := .bool _) rfl) ?_
        refine ⟨false, ⟨rfl, trivial⟩, rfl, rfl, (Ext.trans E1 E2), fun h3 E3 => ⟨fun _ hh => by subst hh; simp at e2, fun e => (by cases e)⟩, ?_⟩
        repeat (first | exact off_refl _ _ | exact off_base _ _ _ | refine off_upd (by decide) ?_ | refine off_updL rfl ?_ | refine off_mix rfl ?_)
    · skip
      rw [e1] at HS
      refine op_fn (caps := []) (vs := [.slice _ _ _, .slice _ _ _]) rfl rfl rfl (HS) ?_
      rintro _ g1 E1 rfl
      refine op_pure (pv_move (v := .bool _) rfl) ?_
      refine guard_no rfl rfl ?_
      refine guard_no rfl rfl ?_
      refine guard_no rfl rfl ?_
      refine guard_no rfl rfl ?_
      refine guard_no rfl rfl ?_
      refine op_pure (pv_pickF rfl rfl (v := .bool _) rfl) ?_
      refine op_pure (pv_move (v := .bool _) rfl) ?_
      refine guard_no rfl rfl ?_
      refine guard_no rfl rfl ?_
      refine guard_no rfl rfl ?_
      refine guard_no rfl rfl ?_
      refine guard_no rfl rfl ?_
      refine guard_no rfl rfl ?_
      refine guard_no rfl rfl ?_
      refine op_pure (pv_pickF rfl rfl (v := .bool _) rfl) ?_
      refine op_pure (pv_move (v := .bool _) rfl) ?_
      refine guard_no rfl rfl ?_
      refine guard_no rfl rfl ?_
      refine guard_no rfl rfl ?_
      refine guard_no rfl rfl ?_
      refine guard_no rfl rfl ?_
      refine guard_no rfl rfl ?_
      refine guard_no rfl rfl ?_
      refine op_pure (pv_pickF rfl rfl (v := .bool _) rfl) ?_
      refine op_pure (pv_assign (v := .bool _) rfl) ?_
      refine ⟨false, ⟨rfl, trivial⟩, rfl, rfl, E1, fun h3 E3 => ⟨fun _ hh => by subst hh; simp at e1, fun e => (by cases e)⟩, ?_⟩
      repeat (first | exact off_refl _ _ | exact off_base _ _ _ | refine off_upd (by decide) ?_ | refine off_updL rfl ?_ | refine off_mix rfl ?_)
  · rintro p T1 h_p E_p J_p
    refine goes_norm [_, _] rfl ?_
    refine xp_cutB [5, 6, 38, 39, 40, 41, 42, 43, 44, 45, 46, 47, 48, 49, 50, 51, 52, 53, 54, 55, 56, 57, 58] 2 (α := Bool) (fun u => [(5, .bool u)]) (fun u L => L) (fun u h_u => u = (p && decide (a.joints = b.joints))) ?_ ?_
    · skip
      refine xp_seq ?_
      refine xp_region rfl ?_
      refine op_pure (pv_assign (v := .int .i64 _) rfl) ?_
      refine xp_block ?_
      refine xp_loopB [5, 6, 38, 39, 40, 41, 42, 43, 44, 45, 46, 47, 48, 49, 50, 51, 52, 53, 54, 55, 56, 57, 58] 2 (α := Nat) (fun k => [(5, .bool (sameN p a.joints b.joints k)), (6, .int .i64 k)]) (fun k => _) (fun k h_k => k ≤ a.joints.length) (fun k => a.joints.length - k) (0) ⟨congrArg Value.bool (sameN_zero _ _ _).symm, rfl, trivial⟩ (rfl) (Nat.zero_le _) ?_
      rintro k T3 h_k E_k J_k
      refine goes_norm [_, _] rfl ?_
      obtain ⟨q, hq⟩ : ∃ q, sameN p a.joints b.joints k = q := ⟨_, rfl⟩
      rw [hq]
      cases q with
      | false =>
        refine xp_seq ?_
        refine xp_seq ?_
        refine xp_region rfl ?_
        refine op_pure (pv_move (v := .bool _) rfl) ?_
        refine op_pure (pv_move (v := .bool _) rfl) ?_
        refine guard_no rfl rfl ?_
        refine guard_no rfl rfl ?_
        refine guard_no rfl rfl ?_
        refine guard_no rfl rfl ?_
        refine guard_no rfl rfl ?_
        refine op_pure (pv_pickF rfl rfl (v := .bool _) rfl) ?_
        refine xp_condF rfl (rfl) ?_
        refine xp_exit ?_
        refine ⟨false, ⟨rfl, trivial⟩, rfl, rfl, E_k, fun h3 E3 => (sameN_no hq).symm, ?_⟩
        repeat (first | exact off_refl _ _ | exact off_base _ _ _ | refine off_upd (by decide) ?_ | refine off_updL rfl ?_ | refine off_mix rfl ?_)
      | true =>
        have hpt : p = true := by cases hPP : p with | true => rfl | false => rw [hPP] at hq; cases hq
        have hlen : a.joints.length = b.joints.length := (J_p.yes hpt).2.2.1
        refine xp_seq ?_
        refine xp_seq ?_
        refine xp_region rfl ?_
        refine op_pure (pv_move (v := .bool _) rfl) ?_
        refine op_pure (pv_move (v := .bool _) rfl) ?_
        refine guard_yes rfl rfl ?_
        refine op_pure (pv_move (v := .int .i64 _) rfl) ?_
        refine guard_yes rfl rfl ?_
        refine op_pure (pv_fieldAddr rfl rfl rfl rfl 2 rfl) ?_
        refine guard_yes rfl rfl ?_
        refine op_loadP 0 (v := .slice _ _ _) rfl rfl rfl rfl ?_
        refine guard_yes rfl rfl ?_
        refine op_pure (pv_len rfl rfl) ?_
        refine guard_yes rfl rfl ?_
        refine op_pure (pv_of (v := .bool _) rfl) ?_
        refine op_pure (pv_pickT rfl rfl (v := .bool _) rfl) ?_
        refine xp_cond rfl (fun ht => ?_) (fun ht => ?_)
        · skip
          have hlt : k < a.joints.length := ltI ht
          have hlt2 : k < b.joints.length := by omega
          obtain ⟨g, off, hA, hc⟩ := (Ra.joints.ext (Ext.trans E_p E_k)).at (by omega) hlt
          obtain ⟨g2, off2, hB, hc2⟩ := (Rb.joints.ext (Ext.trans E_p E_k)).at (by omega) hlt2
          refine xp_skip ?_
          refine xp_seq ?_
          refine xp_block ?_
          refine xp_dw [] rfl rfl rfl ?_
          refine dw_pure (i := 0) rfl (by decide +kernel) (pv_fieldAddr rfl rfl rfl rfl 2 rfl) ?_
          refine dw_load (i := 1) rfl (by decide +kernel) ?_
          refine op_loadP 0 (v := .slice _ _ _) rfl rfl rfl rfl ?_
          refine dw_pure (i := 2) rfl (by decide +kernel) (pv_move (v := .int .i64 _) rfl) ?_
          refine dw_pure (i := 3) rfl (by decide +kernel) (pv_indexE rfl hA rfl rfl rfl (by omega) (by omega)) ?_
          refine dw_load (i := 4) rfl (by decide +kernel) ?_
          refine op_loadA rfl rfl rfl rfl (hc) ?_
          refine dw_pure (i := 5) rfl (by decide +kernel) (pv_fieldAddr rfl rfl rfl rfl 2 rfl) ?_
          refine dw_load (i := 6) rfl (by decide +kernel) ?_
          refine op_loadP 1 (v := .slice _ _ _) rfl rfl rfl rfl ?_
          refine dw_pure (i := 7) rfl (by decide +kernel) (pv_move (v := .int .i64 _) rfl) ?_
          refine dw_pure (i := 8) rfl (by decide +kernel) (pv_indexE rfl hB rfl rfl rfl (by omega) (by omega)) ?_
          refine dw_load (i := 9) rfl (by decide +kernel) ?_
          refine op_loadA rfl rfl rfl rfl (hc2) ?_
          refine dw_pure (i := 10) rfl (by decide +kernel) (pv_eqA rfl rfl (by kernel_rfl) (jointEq _ _)) ?_
          refine dw_pure (i := 11) rfl (by decide +kernel) (pv_assign (v := .bool _) rfl) ?_
          refine dw_end rfl ?_
          refine xp_region rfl ?_
          refine op_pure (pv_move (v := .int .i64 _) rfl) ?_
          refine op_pure (pv_arith rfl (by omega)) ?_
          refine op_pure (pv_assign (v := .int .i64 _) rfl) ?_
          refine ⟨k + 1, ⟨(by rw [hpt] at hq ⊢; rw [sameN_succ hlt hlt2 hq]; rfl), rfl, trivial⟩, rfl, rfl, E_k, fun h3 E3 => hlt, by first | omega | (dsimp only; omega), ?_⟩
          repeat (first | exact off_base _ _ _ | refine off_upd (by decide) ?_ | refine off_updL rfl ?_ | refine off_mix rfl ?_)
        · skip
          have hke : k = a.joints.length := by have := geI ht; omega
          subst hke
          refine xp_exit ?_
          refine ⟨true, ⟨rfl, trivial⟩, rfl, rfl, E_k, fun h3 E3 => by rw [sameN_all hlen] at hq; exact hq.symm, ?_⟩
          repeat (first | exact off_refl _ _ | exact off_base _ _ _ | refine off_upd (by decide) ?_ | refine off_updL rfl ?_ | refine off_mix rfl ?_)
    · rintro u T2 h_u E_u J_u
      refine goes_norm [_, _] rfl ?_
      refine xp_seq ?_
      refine xp_seq ?_
      refine xp_region rfl ?_
      refine op_pure (pv_assign (v := .int .i64 _) rfl) ?_
      refine xp_block ?_
      refine xp_loopB [5, 7, 59, 60, 61, 62, 63, 64, 65, 66, 67, 68, 69, 70, 71, 72, 73, 74, 75, 76, 77, 78, 79] 2 (α := Nat) (fun k => [(5, .bool (sameN u a.reports b.reports k)), (7, .int .i64 k)]) (fun k => _) (fun k h_k => k ≤ a.reports.length) (fun k => a.reports.length - k) (0) ⟨congrArg Value.bool (sameN_zero _ _ _).symm, rfl, trivial⟩ (rfl) (Nat.zero_le _) ?_
      rintro k T4 h_k E_k J_k
      refine goes_norm [_, _] rfl ?_
      obtain ⟨q, hq⟩ : ∃ q, sameN u a.reports b.reports k = q := ⟨_, rfl⟩
      rw [hq]
      cases q with
      | false =>
        refine xp_seq ?_
        refine xp_seq ?_
        refine xp_region rfl ?_
        refine op_pure (pv_move (v := .bool _) rfl) ?_
        refine op_pure (pv_move (v := .bool _) rfl) ?_
        refine guard_no rfl rfl ?_
        refine guard_no rfl rfl ?_
        refine guard_no rfl rfl ?_
        refine guard_no rfl rfl ?_
        refine guard_no rfl rfl ?_
        refine op_pure (pv_pickF rfl rfl (v := .bool _) rfl) ?_
        refine xp_condF rfl (rfl) ?_
        refine xp_exit ?_
        refine xp_seq ?_
        refine xp_region rfl ?_
        refine op_pure (pv_move (v := .bool _) rfl) ?_
        refine op_pure (pv_assign (v := .bool _) rfl) ?_
        refine xp_ret ?_
        refine res_list (vs := [_]) Try.results31 ⟨resV_tmp rfl rfl, trivial⟩ fun V => ?_
        refine ⟨(Ext.trans (Ext.trans (Ext.trans E_p E_u) E_k) (ext_wl V)), congrArg Value.bool ?_⟩
        have e := sameN_no hq
        rw [J_u] at e
        cases hd : decide (a = b) with
        | false => rfl
        | true =>
          have := of_decide_eq_true hd
          subst this
          have hp : p = true := by cases hp : p with | true => rfl | false => exact absurd rfl (J_p.no hp)
          rw [hp] at e
          simp at e
      | true =>
        have hpt : u = true := by cases hPP : u with | true => rfl | false => rw [hPP] at hq; cases hq
        have hlen : a.reports.length = b.reports.length := (J_p.yes (by rw [J_u] at hpt; simp at hpt; exact hpt.1)).2.2.2
        refine xp_seq ?_
        refine xp_seq ?_
        refine xp_region rfl ?_
        refine op_pure (pv_move (v := .bool _) rfl) ?_
        refine op_pure (pv_move (v := .bool _) rfl) ?_
        refine guard_yes rfl rfl ?_
        refine op_pure (pv_move (v := .int .i64 _) rfl) ?_
        refine guard_yes rfl rfl ?_
        refine op_pure (pv_fieldAddr rfl rfl rfl rfl 3 rfl) ?_
        refine guard_yes rfl rfl ?_
        refine op_loadP 0 (v := .slice _ _ _) rfl rfl rfl rfl ?_
        refine guard_yes rfl rfl ?_
        refine op_pure (pv_len rfl rfl) ?_
        refine guard_yes rfl rfl ?_
        refine op_pure (pv_of (v := .bool _) rfl) ?_
        refine op_pure (pv_pickT rfl rfl (v := .bool _) rfl) ?_
        refine xp_cond rfl (fun ht => ?_) (fun ht => ?_)
        · skip
          have hlt : k < a.reports.length := ltI ht
          have hlt2 : k < b.reports.length := by omega
          obtain ⟨g, off, hA, hc⟩ := (Ra.reports.ext (Ext.trans (Ext.trans E_p E_u) E_k)).at (by omega) hlt
          obtain ⟨g2, off2, hB, hc2⟩ := (Rb.reports.ext (Ext.trans (Ext.trans E_p E_u) E_k)).at (by omega) hlt2
          refine xp_skip ?_
          refine xp_seq ?_
          refine xp_block ?_
          refine xp_dw [] rfl rfl rfl ?_
          refine dw_pure (i := 0) rfl (by decide +kernel) (pv_fieldAddr rfl rfl rfl rfl 3 rfl) ?_
          refine dw_load (i := 1) rfl (by decide +kernel) ?_
          refine op_loadP 0 (v := .slice _ _ _) rfl rfl rfl rfl ?_
          refine dw_pure (i := 2) rfl (by decide +kernel) (pv_move (v := .int .i64 _) rfl) ?_
          refine dw_pure (i := 3) rfl (by decide +kernel) (pv_indexE rfl hA rfl rfl rfl (by omega) (by omega)) ?_
          refine dw_load (i := 4) rfl (by decide +kernel) ?_
          refine op_loadA rfl rfl rfl rfl (hc) ?_
          refine dw_pure (i := 5) rfl (by decide +kernel) (pv_fieldAddr rfl rfl rfl rfl 3 rfl) ?_
          refine dw_load (i := 6) rfl (by decide +kernel) ?_
          refine op_loadP 1 (v := .slice _ _ _) rfl rfl rfl rfl ?_
          refine dw_pure (i := 7) rfl (by decide +kernel) (pv_move (v := .int .i64 _) rfl) ?_
          refine dw_pure (i := 8) rfl (by decide +kernel) (pv_indexE rfl hB rfl rfl rfl (by omega) (by omega)) ?_
          refine dw_load (i := 9) rfl (by decide +kernel) ?_
          refine op_loadA rfl rfl rfl rfl (hc2) ?_
          refine dw_pure (i := 10) rfl (by decide +kernel) (pv_eqA rfl rfl (by kernel_rfl) (seenEq _ _)) ?_
          refine dw_pure (i := 11) rfl (by decide +kernel) (pv_assign (v := .bool _) rfl) ?_
          refine dw_end rfl ?_
          refine xp_region rfl ?_
          refine op_pure (pv_move (v := .int .i64 _) rfl) ?_
          refine op_pure (pv_arith rfl (by omega)) ?_
          refine op_pure (pv_assign (v := .int .i64 _) rfl) ?_
          refine ⟨k + 1, ⟨(by rw [hpt] at hq ⊢; rw [sameN_succ hlt hlt2 hq]; rfl), rfl, trivial⟩, rfl, rfl, E_k, fun h3 E3 => hlt, by first | omega | (dsimp only; omega), ?_⟩
          repeat (first | exact off_base _ _ _ | refine off_upd (by decide) ?_ | refine off_updL rfl ?_ | refine off_mix rfl ?_)
        · skip
          have hke : k = a.reports.length := by have := geI ht; omega
          subst hke
          refine xp_exit ?_
          refine xp_seq ?_
          refine xp_region rfl ?_
          refine op_pure (pv_move (v := .bool _) rfl) ?_
          refine op_pure (pv_assign (v := .bool _) rfl) ?_
          refine xp_ret ?_
          refine res_list (vs := [_]) Try.results31 ⟨resV_tmp rfl rfl, trivial⟩ fun V => ?_
          refine ⟨(Ext.trans (Ext.trans (Ext.trans E_p E_u) E_k) (ext_wl V)), congrArg Value.bool ?_⟩
          rw [sameN_all hlen, J_u] at hq
          simp only [Bool.and_eq_true, decide_eq_true_eq] at hq
          obtain ⟨y1, y2, _, _⟩ := J_p.yes hq.1.1
          have : a = b := by
            obtain ⟨q1, q2, q3, q4⟩ := a
            obtain ⟨r1, r2, r3, r4⟩ := b
            simp only at y1 y2 hq
            rw [y1, y2, hq.1.2, hq.2]
          rw [decide_eq_true this]
end Go.Proofs.Ytndfkbapoinmkaa
