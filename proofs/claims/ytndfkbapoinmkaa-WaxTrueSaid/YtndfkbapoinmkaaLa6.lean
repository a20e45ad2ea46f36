/- An own logic over the model, its walks and its plain laws, joined of parts Tk Tl W37 W38 Tm W39 W40 W41 Tn W42 To W44. Conditions: as each theorem states. -/
import Derived.Test.YtndfkbapoinmkaaLa5
set_option linter.all false
/- Plain: warmer and colder weather. Conditions: as each theorem states. -/
namespace Go.Wx
open Go Go.HL
theorem coldM_pre (y : Sky) (c : Int) (m : Nat) : ∀ d i, i < (coldM y c m).length → (coldM y c (m + d))[i]? = (coldM y c m)[i]?
  | 0, i, _ => rfl
  | d + 1, i, h => by
    have ih := coldM_pre y c m d i h
    have hl : i < (coldM y c (m + d)).length := by
      rw [List.getElem?_eq_getElem h] at ih
      exact (List.getElem?_eq_some_iff.1 ih).1
    rw [← Nat.add_assoc, coldM_succ]
    split
    · rw [List.getElem?_append_left hl, ih]
    · exact ih
theorem coldM_more {x y : Sky} {c : Int} : ∀ n, (∀ w, w < n → y.at w ≤ x.at w) → (coldM x c n).length ≤ (coldM y c n).length
  | 0, _ => Nat.le_refl _
  | n + 1, h => by
    have ih := coldM_more (c := c) n fun w hw => h w (by omega)
    have hn := h n (by omega)
    rw [coldM_succ, coldM_succ]
    split
    · rw [if_pos (by omega)]; simp; exact ih
    · split
      · simp; omega
      · exact ih
theorem when1_le (x : Sky) (n : Nat) (c : Int) (many : Nat) : when1 x n c many ≤ n := by
  unfold when1
  split
  · rename_i h
    by_cases hm : many = 0
    · subst hm
      cases hc : coldM x c n with
      | nil => simp
      | cons z l =>
        obtain ⟨w, e, hw, _⟩ := coldM_mem (x := x) (c := c) (k := n) (z := z) (by rw [hc]; exact List.mem_cons_self ..)
        simp; omega
    · have hi : many - 1 < (coldM x c n).length := by omega
      obtain ⟨w, e, hw, _⟩ := coldM_mem (List.getElem_mem hi)
      rw [List.getD_eq_getElem?_getD, List.getElem?_eq_getElem hi]
      simp only [Option.getD_some]
      omega
  · exact Nat.le_refl _
theorem when1_mono {x y : Sky} {n : Nat} {c : Int} {many : Nat} (hm : 1 ≤ many) (h : ∀ w, w < n → y.at w ≤ x.at w) : when1 y n c many ≤ when1 x n c many := by
  by_cases hx : many ≤ (coldM x c n).length
  · have hi : many - 1 < (coldM x c n).length := by omega
    obtain ⟨w, e, hw, hc⟩ := coldM_mem (List.getElem_mem hi)
    have hget : (coldM x c n)[many - 1]? = some (w : Int) := by rw [List.getElem?_eq_getElem hi, e]
    have h3 := coldM_at x c w n hw hc
    have h4 := pair_inj (coldM_pair _ _ _) hget h3
    have hxl : many ≤ (coldM x c (w + 1)).length := by rw [coldM_succ, if_pos hc]; simp; omega
    have hyl : many ≤ (coldM y c (w + 1)).length := Nat.le_trans hxl (coldM_more (w + 1) fun q hq => h q (by omega))
    have hpre := coldM_pre y c (w + 1) (n - (w + 1)) (many - 1) (by omega)
    rw [show w + 1 + (n - (w + 1)) = n from by omega] at hpre
    have hj : many - 1 < (coldM y c (w + 1)).length := by omega
    obtain ⟨v, e2, hv, _⟩ := coldM_mem (List.getElem_mem hj)
    rw [List.getElem?_eq_getElem hj, e2] at hpre
    have hyn : many ≤ (coldM y c n).length := by have := (List.getElem?_eq_some_iff.1 hpre).1; omega
    have e3 : when1 y n c many = v := by
      unfold when1
      rw [if_pos hyn, List.getD_eq_getElem?_getD, hpre]
      simp
    have e4 : when1 x n c many = w := by
      unfold when1
      rw [if_pos hx, List.getD_eq_getElem?_getD, hget]
      simp
    omega
  · have e4 : when1 x n c many = n := by unfold when1; rw [if_neg hx]
    rw [e4]
    exact when1_le _ _ _ _
theorem when0_mono {x y : Sky} {n : Nat} {h : Int} (hn : n ≤ 6) (hxy : ∀ w, w < n → x.at w ≤ y.at w) : when0 y n h ≤ when0 x n h := by
  obtain ⟨a1, a2, _⟩ := when0_spec x n h hn
  obtain ⟨b1, _, b3⟩ := when0_spec y n h hn
  by_cases hc : when0 x n h < n
  · have := a2 hc
    have := hxy _ hc
    exact b3 _ hc (by omega)
  · omega
theorem when0_never {x : Sky} {n : Nat} {h : Int} (hn : n ≤ 6) (hx : ∀ w, w < n → x.at w < h) : when0 x n h = n := by
  obtain ⟨a1, a2, _⟩ := when0_spec x n h hn
  by_cases hc : when0 x n h < n
  · have := a2 hc; have := hx _ hc; omega
  · omega
theorem when1_never {x : Sky} {n : Nat} {c : Int} {many : Nat} (hm : 1 ≤ many) (hx : ∀ w, w < n → c < x.at w) : when1 x n c many = n := by
  have : coldM x c n = [] := by
    rw [List.eq_nil_iff_forall_not_mem]
    intro z hz
    obtain ⟨w, _, h1, h2⟩ := coldM_mem hz
    have := hx w h1
    omega
  unfold when1
  rw [this, if_neg (by simp; omega)]
theorem week_hot {x y : Sky} {n : Nat} {h c : Int} {many life : Nat} (hn : n ≤ 6) (hm : 1 ≤ many) (hx : ∀ w, w < n → c < x.at w) (hy : ∀ w, w < n → c < y.at w) (hxy : ∀ w, w < n → x.at w ≤ y.at w) : weekM y n h c many life ≤ weekM x n h c many life := by
  have := when0_mono (h := h) hn hxy
  unfold weekM
  rw [when1_never hm hx, when1_never hm hy]
  omega
theorem week_cold {x y : Sky} {n : Nat} {h c : Int} {many life : Nat} (hn : n ≤ 6) (hm : 1 ≤ many) (hx : ∀ w, w < n → x.at w < h) (hy : ∀ w, w < n → y.at w < h) (hxy : ∀ w, w < n → y.at w ≤ x.at w) : weekM y n h c many life ≤ weekM x n h c many life := by
  have := when1_mono (c := c) hm hxy
  unfold weekM
  rw [when0_never hn hx, when0_never hn hy]
  omega
theorem harderS_heats (s : Season) (k a z d : Int) : (harderS s k a z d).heats.length = s.heats.length := by
  unfold harderS
  split
  · rename_i h
    subst h
    show (harderW s 1 a z d).length = _
    unfold harderW weatherM
    rw [if_pos rfl, raisedN_len]
  · rfl
theorem harderS_joints (s : Season) (k a z d : Int) : (harderS s k a z d).joints = s.joints := by unfold harderS; split <;> rfl
theorem harderS_reports (s : Season) (k a z d : Int) : (harderS s k a z d).reports = [] := by unfold harderS; split <;> rfl
theorem harderS_weather (s : Season) {k n : Int} (hk : k = 1 ∨ k = 2) (hn : n = 1 ∨ n = 2) (a z d : Int) : weatherM (harderS s k a z d) n = if n = k then harderW s k a z d else weatherM s n := by
  unfold harderS weatherM
  rcases hk with rfl | rfl <;> rcases hn with rfl | rfl <;> rfl
theorem harder_twice (s : Season) {k : Int} (hk : k = 1 ∨ k = 2) (a z d e : Int) : harderS (harderS s k a z d) k a z e = harderS s k a z (d + e) := by
  have hw : harderW (harderS s k a z d) k a z e = harderW s k a z (d + e) := by
    unfold harderW
    rw [harderS_weather s hk hk, if_pos rfl]
    unfold harderW
    exact raisedN_twice _ _ _ _ _
  rcases hk with rfl | rfl
  · rw [harderS, if_pos rfl, hw]; rfl
  · rw [harderS, if_neg (by decide), hw]; rfl
theorem mem_harderW {s : Season} {k a z d : Int} {r : Rg} (h : r ∈ harderW s k a z d) : ∃ q ∈ weatherM s k, r = upR q d ∨ r = q := by
  obtain ⟨i, hi⟩ := List.mem_iff_getElem?.1 h
  unfold harderW at hi
  rw [raisedN_get] at hi
  cases hq : (weatherM s k)[i]? with
  | none => rw [hq] at hi; cases hi
  | some q =>
    rw [hq] at hi
    refine ⟨q, List.mem_of_getElem? hq, ?_⟩
    simp only [Option.map_some, Option.some.injEq] at hi
    split at hi
    · exact .inl hi.symm
    · exact .inr hi.symm
/-- Weather far from its bounds. -/
def MildW (s : Season) (m : Int) : Prop := ∀ n, ∀ r ∈ weatherM s n, -50 + m ≤ r.mn ∧ r.mx ≤ 100 - m
theorem MildW.harder {s : Season} {m d : Int} (M : MildW s m) {k : Int} (hk : k = 1 ∨ k = 2) (a z : Int) {m' : Int} (h1 : m' + d ≤ m) (h2 : m' - d ≤ m) (h3 : m' ≤ m) : MildW (harderS s k a z d) m' := by
  intro n r hr
  have key : ∀ n, (n = 1 ∨ n = 2) → ∀ r ∈ weatherM (harderS s k a z d) n, -50 + m' ≤ r.mn ∧ r.mx ≤ 100 - m' := by
    intro n hn r hr
    rw [harderS_weather s hk hn] at hr
    split at hr
    · obtain ⟨q, hq, rfl | rfl⟩ := mem_harderW hr
      · have := M k q hq
        simp only [upR]
        omega
      · have := M k r hq; omega
    · have := M n r hr; omega
  by_cases hn : n = 1
  · exact key n (.inl hn) r hr
  · refine key 2 (.inr rfl) r ?_
    unfold weatherM at hr ⊢
    rw [if_neg hn] at hr
    rw [if_neg (by decide)]
    exact hr
theorem harder_check {s : Season} (c : CheckS s) {m d : Int} (M : MildW s m) {k : Int} (hk : k = 1 ∨ k = 2) (a z : Int) (h1 : d ≤ m) (h2 : -d ≤ m) : CheckS (harderS s k a z d) := by
  have hw : ∀ n, (n = 1 ∨ n = 2) → ∀ r ∈ weatherM (harderS s k a z d) n, checkWeatherM r = 0 := by
    have hb : ∀ n, (n = 1 ∨ n = 2) → ∀ r ∈ weatherM s n, checkWeatherM r = 0 := by
      rintro n (rfl | rfl) r hr
      · exact c.h r hr
      · exact c.d r hr
    intro n hn r hr
    rw [harderS_weather s hk hn] at hr
    split at hr
    · rename_i hnk
      obtain ⟨q, hq, rfl | rfl⟩ := mem_harderW hr
      · have h3 := M k q hq
        have h4 := checkWeather_iff.1 (hb k hk q hq)
        refine checkWeather_iff.2 ?_
        simp only [upR]
        omega
      · exact hb k hk r hq
    · exact hb n hn r hr
  have hl := harderS_heats s k a z d
  have hdl : (harderS s k a z d).damps.length = s.damps.length := by
    unfold harderS
    split
    · rfl
    · rename_i h
      show (harderW s k a z d).length = _
      unfold harderW weatherM
      rw [if_neg h, raisedN_len]
  refine ⟨by rw [hl]; exact c.w1, by rw [hl]; exact c.w6, by rw [hl, hdl]; exact c.dl, hw 1 (.inl rfl), hw 2 (.inr rfl), by rw [harderS_joints]; exact c.j3, by rw [harderS_joints]; exact c.j, by rw [harderS_reports]; exact Nat.zero_le _, by rw [harderS_reports]; intro r h; cases h⟩
theorem harder_fine {s : Season} (c : CheckS s) {m d : Int} (M : MildW s m) {k a z : Int} (hk : k = 1 ∨ k = 2) (ha : 0 ≤ a) (haz : a ≤ z) (hz : z < s.heats.length) (h1 : d ≤ m) (h2 : -d ≤ m) (h3 : -150 ≤ d ∧ d ≤ 150) : harderE s k a z d = 0 ∧ harderV s k a z d = harderS s k a z d := by
  have e : harderE s k a z d = 0 := by
    have hany : (harderW s k a z d).any outR = false := by
      rw [Bool.eq_false_iff]
      intro h
      obtain ⟨r, hr, ho⟩ := List.any_eq_true.1 h
      have hcw : checkWeatherM r = 0 := by
        have hc := harder_check c M hk a z h1 h2
        have hw : r ∈ weatherM (harderS s k a z d) k := by rw [harderS_weather s hk hk, if_pos rfl]; exact hr
        rcases hk with rfl | rfl
        · exact hc.h r hw
        · exact hc.d r hw
      have := checkWeather_iff.1 hcw
      unfold outR inM at ho
      simp at ho
      omega
    unfold harderE inM
    rw [if_neg (by rw [c.ok]; decide), if_neg (by simp; omega), if_neg (by simp; omega), if_neg (by simp; omega), if_neg (by omega), if_neg (by simp; omega), hany]
    rfl
  exact ⟨e, by rw [harderV, if_pos e]⟩
/-- Each weather of the one season has one of the other, shifted. -/
theorem shift_to {s : Season} (c : CheckS s) {k n a z d : Int} (hk : k = 1 ∨ k = 2) (hn : n = 1 ∨ n = 2) (ha : 0 ≤ a) (haz : a ≤ z) (hz : z < s.heats.length) {x : Sky} (hx : x ∈ allSkies s n) : ∃ y, y ∈ allSkies (harderS s k a z d) n ∧ ∀ w, w < 6 → y.at w = x.at w + if n = k ∧ a.toNat ≤ w ∧ w < (z + 1).toNat then d else 0 := by
  have hwl : ∀ n, (weatherM s n).length = s.heats.length := by
    intro n; unfold weatherM; split
    · rfl
    · exact c.dl
  have h6 := c.w6
  rw [mem_allSkies (by rw [hwl]; exact h6)] at hx
  have hwl2 : (weatherM (harderS s k a z d) n).length = s.heats.length := by
    rw [harderS_weather s hk hn]
    split
    · unfold harderW; rw [raisedN_len, hwl]
    · exact hwl n
  refine ⟨skyF fun w => x.at w + if n = k ∧ a.toNat ≤ w ∧ w < (z + 1).toNat then d else 0, ?_, fun w hw => skyF_at _ w hw⟩
  rw [mem_allSkies (by rw [hwl2]; exact h6), hwl2]
  constructor
  · intro i r hr
    have hi := (List.getElem?_eq_some_iff.1 hr).1
    rw [hwl2] at hi
    rw [skyF_at _ i (by omega)]
    rw [harderS_weather s hk hn] at hr
    by_cases hnk : n = k
    · rw [if_pos hnk] at hr
      unfold harderW at hr
      rw [raisedN_get] at hr
      cases hq : (weatherM s k)[i]? with
      | none => rw [hq] at hr; cases hr
      | some q =>
        rw [hq] at hr
        simp only [Option.map_some, Option.some.injEq] at hr
        have := hx.1 i q (by rw [hnk]; exact hq)
        by_cases hc : a.toNat ≤ i ∧ i < (z + 1).toNat
        · rw [if_pos hc] at hr
          rw [if_pos ⟨hnk, hc⟩, ← hr]
          simp only [upR]
          omega
        · rw [if_neg hc] at hr
          rw [if_neg (fun h => hc h.2), ← hr]
          omega
    · rw [if_neg hnk] at hr
      rw [if_neg (fun h => hnk h.1)]
      have := hx.1 i r hr
      omega
  · intro i hi hl
    rw [skyF_at _ i hi, hx.2 i hi (by rw [hwl]; exact hl), if_neg (by omega)]
    rfl
theorem shift_back {s : Season} (c : CheckS s) {m : Int} (hr : s.reports = []) (M : MildW s m) {k n a z d : Int} (hk : k = 1 ∨ k = 2) (hn : n = 1 ∨ n = 2) (ha : 0 ≤ a) (haz : a ≤ z) (hz : z < s.heats.length) (h1 : d ≤ m) (h2 : -d ≤ m) {y : Sky} (hy : y ∈ allSkies (harderS s k a z d) n) : ∃ x, x ∈ allSkies s n ∧ ∀ w, w < 6 → x.at w = y.at w + if n = k ∧ a.toNat ≤ w ∧ w < (z + 1).toNat then -d else 0 := by
  obtain ⟨x, hx, e⟩ := shift_to (k := k) (d := -d) (harder_check c M hk a z h1 h2) hk hn ha haz (by rw [harderS_heats]; exact hz) hy
  refine ⟨x, ?_, e⟩
  rw [harder_twice s hk] at hx
  have h0 : weatherM (harderS s k a z (d + -d)) n = weatherM s n := by
    rw [harderS_weather s hk hn]
    split
    · rename_i h
      subst h
      unfold harderW
      apply List.ext_getElem?
      intro i
      rw [raisedN_get]
      cases (weatherM s n)[i]? with
      | none => rfl
      | some q =>
        simp only [Option.map_some, upR]
        rw [show d + -d = 0 from by omega, Int.add_zero, Int.add_zero, ite_self]
    · rfl
  unfold allSkies at hx ⊢
  rw [h0] at hx
  exact hx
/-- The joints of the law on warmer weather. -/
def hotJ (i : Nat) (j : Joint) : Joint := if i % 2 = 0 then { j with life := ⟨9, 9⟩, low := ⟨-50, -50⟩ } else { j with life := ⟨9, 9⟩, high := ⟨100, 100⟩ }
def hotL (js : List Joint) (k : Nat) : List Joint := js.mapIdx fun i j => if i < k then hotJ i j else j
theorem hotL_len (js : List Joint) (k : Nat) : (hotL js k).length = js.length := by simp [hotL]
theorem hotL_zero (js : List Joint) : hotL js 0 = js := by
  apply List.ext_getElem?
  intro i
  unfold hotL
  rw [List.getElem?_mapIdx]
  cases js[i]? <;> rfl
theorem hotL_get (js : List Joint) (k i : Nat) : (hotL js k)[i]? = (js[i]?).map fun j => if i < k then hotJ i j else j := by unfold hotL; rw [List.getElem?_mapIdx]
theorem hotL_succ {js : List Joint} {k : Nat} (hk : k < js.length) : (hotL js k).set k (hotJ k js[k]) = hotL js (k + 1) := by
  apply List.ext_getElem?
  intro i
  rw [List.getElem?_set, hotL_get, hotL_get, hotL_len]
  by_cases hi : k = i
  · subst hi
    simp [hk]
  · rw [if_neg hi]
    cases js[i]? with
    | none => rfl
    | some j =>
      simp only [Option.map_some]
      congr 1
      by_cases h : i < k
      · rw [if_pos h, if_pos (by omega)]
      · rw [if_neg h, if_neg (by omega)]
def hotS (s : Season) : Season := ⟨s.heats, s.damps, hotL s.joints s.joints.length, []⟩
theorem hotS_at {s : Season} {i : Nat} {j : Joint} (h : (hotS s).joints[i]? = some j) : ∃ q, s.joints[i]? = some q ∧ j = hotJ i q := by
  unfold hotS at h
  simp only at h
  rw [hotL_get] at h
  cases hq : s.joints[i]? with
  | none => rw [hq] at h; cases h
  | some q =>
    rw [hq] at h
    have hl := (List.getElem?_eq_some_iff.1 hq).1
    simp only [Option.map_some, Option.some.injEq] at h
    rw [if_pos hl] at h
    exact ⟨q, rfl, h.symm⟩
theorem hotS_check {s : Season} (c : CheckS s) : CheckS (hotS s) := by
  refine ⟨c.w1, c.w6, c.dl, c.h, c.d, by show (hotL _ _).length ≤ 3; rw [hotL_len]; exact c.j3, fun j hj => ?_, Nat.zero_le _, fun r h => (by cases h)⟩
  obtain ⟨i, hi⟩ := List.mem_iff_getElem?.1 hj
  obtain ⟨q, hq, rfl⟩ := hotS_at hi
  have hc := c.j q (List.mem_of_getElem? hq)
  unfold checkJointM at hc
  split at hc
  · cases hc
  · rename_i h0
    split at hc
    · rename_i h1; exact absurd hc h1
    · rename_i h1
      split at hc
      · rename_i h2; exact absurd hc h2
      · rename_i h2
        split at hc
        · rename_i h3; exact absurd hc h3
        · rename_i h3
          have w50 : checkWeatherM ⟨-50, -50⟩ = 0 := by decide
          have w100 : checkWeatherM ⟨100, 100⟩ = 0 := by decide
          have l9 : checkRangeM ⟨9, 9⟩ 0 9 = 0 := by decide
          by_cases he : i % 2 = 0
          · rw [hotJ, if_pos he, checkJointM, if_neg h0, if_neg h1, if_neg (by rw [w50]; decide), if_neg h3]; exact l9
          · rw [hotJ, if_neg he, checkJointM, if_neg h0, if_neg (by rw [w100]; decide), if_neg h2, if_neg h3]; exact l9
theorem sky_between {s : Season} (c : CheckS s) {m : Int} (M : MildW s m) {n : Int} {x : Sky} (hx : x ∈ allSkies s n) : ∀ w, w < s.heats.length → -50 + m ≤ x.at w ∧ x.at w ≤ 100 - m := by
  have hwl : (weatherM s n).length = s.heats.length := by
    unfold weatherM; split
    · rfl
    · exact c.dl
  intro w hw
  have hi : w < (weatherM s n).length := by omega
  have h1 := ((mem_allSkies (by rw [hwl]; exact c.w6)).1 hx).1 w _ (List.getElem?_eq_getElem hi)
  have h2 := M n _ (List.getElem_mem hi)
  omega
/-- Warmer or colder weather: a joint that only it harms fails no later. -/
theorem hot_later {s : Season} (c : CheckS s) {m : Int} (M : MildW s m) (hm : 20 ≤ m) {k a z d : Int} (hk : k = 1 ∨ k = 2) (ha : 0 ≤ a) (haz : a ≤ z) (hz : z < s.heats.length) (hd : -8 ≤ d ∧ d ≤ 8) {i : Nat} (hi : i < s.joints.length) (hs : if i % 2 = 0 then 0 ≤ d else d ≤ 0) :
    (∀ w, w < 7 → (failsM (hotS s) i).testBit w = true → ∃ w', w' ≤ w ∧ (failsM (harderS (hotS s) k a z d) i).testBit w' = true) ∧ (∀ w', w' < 7 → (failsM (harderS (hotS s) k a z d) i).testBit w' = true → ∃ w, w' ≤ w ∧ w < 7 ∧ (failsM (hotS s) i).testBit w = true) := by
  have C := hotS_check c
  have Mh : MildW (hotS s) m := M
  have CU := harder_check C Mh hk a z (d := d) (by omega) (by omega)
  have MU : MildW (harderS (hotS s) k a z d) 2 := Mh.harder hk a z (by omega) (by omega) (by omega)
  have h6 := c.w6
  have hil : i < (hotS s).joints.length := by show i < (hotL _ _).length; rw [hotL_len]; exact hi
  have hj : (hotS s).joints[i]? = some (hotS s).joints[i] := List.getElem?_eq_getElem hil
  obtain ⟨q, hq, ej⟩ := hotS_at hj
  have hju : (harderS (hotS s) k a z d).joints[i]? = some (hotS s).joints[i] := by rw [harderS_joints]; exact hj
  obtain ⟨j, hje⟩ : ∃ j, (hotS s).joints[i] = j := ⟨_, rfl⟩
  rw [hje] at hj hju ej
  have JB := checkJointM_zero (C.j j (List.mem_of_getElem? hj))
  have hlen : (harderS (hotS s) k a z d).heats.length = s.heats.length := harderS_heats _ _ _ _ _
  have hlen0 : (hotS s).heats.length = s.heats.length := rfl
  -- the two weathers, one against the other
  have main : ∀ (x y : Sky), (∀ w, w < s.heats.length → -50 + 2 ≤ x.at w ∧ x.at w ≤ 100 - 2) → (∀ w, w < s.heats.length → -50 + 2 ≤ y.at w ∧ y.at w ≤ 100 - 2) → (∀ w, w < s.heats.length → if i % 2 = 0 then x.at w ≤ y.at w else y.at w ≤ x.at w) →
      ∀ h cc many life : Int, (j.high.mn ≤ h ∧ h ≤ j.high.mx) → (j.low.mn ≤ cc ∧ cc ≤ j.low.mx) → (j.weeks.mn ≤ many ∧ many ≤ j.weeks.mx) → weekM y s.heats.length h cc many.toNat life.toNat ≤ weekM x s.heats.length h cc many.toNat life.toNat := by
    intro x y bx byy hxy h cc many life a1 a2 a3
    have w1 := JB.1.w1
    by_cases he : i % 2 = 0
    · rw [ej] at a2
      unfold hotJ at a2
      rw [if_pos he] at a2
      refine week_hot (by omega) (by omega) (fun w hw => ?_) (fun w hw => ?_) (fun w hw => ?_)
      · have := bx w hw; dsimp only at a2; omega
      · have := byy w hw; dsimp only at a2; omega
      · have := hxy w hw; rw [if_pos he] at this; exact this
    · rw [ej] at a1
      unfold hotJ at a1
      rw [if_neg he] at a1
      refine week_cold (by omega) (by omega) (fun w hw => ?_) (fun w hw => ?_) (fun w hw => ?_)
      · have := bx w hw; dsimp only at a1; omega
      · have := byy w hw; dsimp only at a1; omega
      · have := hxy w hw; rw [if_neg he] at this; exact this
  constructor
  · intro w _ hb
    obtain ⟨x, hx, h, cc, many, life, a1, a2, a3, a4, e⟩ := (bare_bit C rfl hj w).1 hb
    obtain ⟨y, hy, sh⟩ := shift_to (d := d) C hk JB.2 ha haz hz hx
    have bx := sky_between C Mh hx
    have byy := sky_between CU MU hy
    rw [hlen] at byy
    refine ⟨_, ?_, (bare_bit CU (harderS_reports _ _ _ _ _) hju _).2 ⟨y, hy, h, cc, many, life, a1, a2, a3, a4, rfl⟩⟩
    rw [hlen, ← e]
    refine main x y (fun w hw => by have := bx w hw; omega) (fun w hw => byy w hw) (fun w hw => ?_) h cc many life a1 a2 a3
    have e2 := sh w (by omega)
    by_cases he : i % 2 = 0
    · rw [if_pos he] at hs ⊢
      rw [e2]; split <;> omega
    · rw [if_neg he] at hs ⊢
      rw [e2]; split <;> omega
  · intro w _ hb
    obtain ⟨y, hy, h, cc, many, life, a1, a2, a3, a4, e⟩ := (bare_bit CU (harderS_reports _ _ _ _ _) hju w).1 hb
    obtain ⟨x, hx, sh⟩ := shift_back C rfl Mh hk JB.2 ha haz hz (by omega) (by omega) hy
    have bx := sky_between C Mh hx
    have byy := sky_between CU MU hy
    rw [hlen] at byy e
    refine ⟨_, ?_, ?_, (bare_bit C rfl hj _).2 ⟨x, hx, h, cc, many, life, a1, a2, a3, a4, rfl⟩⟩
    · rw [← e]
      refine main x y (fun w hw => by have := bx w hw; omega) (fun w hw => byy w hw) (fun w hw => ?_) h cc many life a1 a2 a3
      have e2 := sh w (by omega)
      by_cases he : i % 2 = 0
      · rw [if_pos he] at hs ⊢
        rw [e2]; split <;> omega
      · rw [if_neg he] at hs ⊢
        rw [e2]; split <;> omega
    · have := weekM_le x (hotS s).heats.length h cc many.toNat life.toNat
      omega
end Go.Wx
/- Plain: seasons with a report more, and without some. Conditions: as each theorem states. -/
namespace Go.Wx
open Go Go.HL
def withS (s : Season) (r : Seen) : Season := { s with reports := s.reports ++ [r] }
def withE (s : Season) (r : Seen) : Int := if checkM s ≠ 0 then checkM s else if s.reports.length = 5 then 6 else if checkSeenM s r ≠ 0 then checkSeenM s r else if mayM (withS s r) then 0 else 9
def withV (s : Season) (r : Seen) : Season := if withE s r = 0 then withS s r else noSeason
/-- The reports whose numbers are not in a list. -/
def keepN (l : List Int) : Nat → List Seen → List Seen
  | _, [] => []
  | i, r :: rs => if (i : Int) ∈ l then keepN l (i + 1) rs else r :: keepN l (i + 1) rs
theorem keepN_snoc (l : List Int) (x : Seen) : ∀ (a : List Seen) (i : Nat), keepN l i (a ++ [x]) = keepN l i a ++ if ((i + a.length : Nat) : Int) ∈ l then [] else [x]
  | [], i => by simp [keepN]
  | r :: a, i => by
    rw [List.cons_append, keepN, keepN, keepN_snoc l x a (i + 1), List.length_cons, show i + 1 + a.length = i + (a.length + 1) from by omega]
    split <;> simp
theorem keepN_len (l : List Int) : ∀ (a : List Seen) (i : Nat), (keepN l i a).length ≤ a.length
  | [], i => by simp [keepN]
  | r :: a, i => by
    have := keepN_len l a (i + 1)
    rw [keepN]
    split
    · simp; omega
    · simp; omega
theorem keepN_mem {l : List Int} {r : Seen} : ∀ {a : List Seen} {i : Nat}, r ∈ keepN l i a → r ∈ a
  | [], i, h => by simp [keepN] at h
  | q :: a, i, h => by
    rw [keepN] at h
    split at h
    · exact List.mem_cons_of_mem _ (keepN_mem h)
    · rcases List.mem_cons.1 h with rfl | h
      · exact List.mem_cons_self ..
      · exact List.mem_cons_of_mem _ (keepN_mem h)
def withoutS (s : Season) (l : List Int) : Season := { s with reports := keepN l 0 s.reports }
theorem CheckS.without {s : Season} (c : CheckS s) (l : List Int) : CheckS (withoutS s l) :=
  ⟨c.w1, c.w6, c.dl, c.h, c.d, c.j3, c.j, Nat.le_trans (keepN_len l s.reports 0) c.r5, fun r hr => by
    have := checkSeen_iff.1 (c.r r (keepN_mem hr))
    exact checkSeen_iff.2 this⟩
theorem CheckS.b {s : Season} (c : CheckS s) : SeasonB s := (checkM_zero c.ok).b
def wrongL (s : Season) : List Int := if checkM s = 0 then (fewestP s.reports.length (fun l => mayM (withoutS s l)) (s.reports.length + 1)).getD [] else []
end Go.Wx
/- Walks: a report more; reports that must be wrong. Conditions: as each theorem states. -/
namespace Go.Proofs.Ytndfkbapoinmkaa
open Go Go.HL Go.Proofs Go.Wx
set_option maxRecDepth 100000
theorem cloneSeenO (l : List Seen) (A : Option Addr) (c : Nat) (h : AH) (R : Row h 3 seenC A l) (hl : l.length < 2 ^ 20) :
    FnM Try.prog (.func (.func 130) #[] ([] : List Value).toArray) [.slice A l.length c] h [] (fun v h' M' => ∃ a : Acc, M' = [a.p] ∧ v = .slice a.A a.n a.c ∧ AccR 56 3 (l.flatMap seenC) a) := by
  cases A with
  | none =>
    have h0 := R.none_nil (by omega)
    subst h0
    refine fnM_body rfl rfl Try.func130 rfl Try.ntmps130 rfl ?_
    refine xp_seq ?_
    refine xp_region rfl ?_
    refine op_pure (pv_assign (v := .slice _ _ _) rfl) ?_
    refine xp_seq ?_
    refine xp_seq ?_
    refine xp_region rfl ?_
    refine op_pure (pv_move (v := .slice _ _ _) rfl) ?_
    refine op_pure (pv_of (v := .bool _) rfl) ?_
    refine xp_cond rfl (fun ht => ?_) (fun ht => ?_)
    · skip
      refine xp_seq ?_
      refine xp_region rfl ?_
      refine op_pure (pv_assign (v := .slice _ _ _) rfl) ?_
      refine xp_ret ?_
      refine res_list (vs := [_]) Try.results130 ⟨resV_tmp rfl rfl, trivial⟩ fun V => ?_
      exact ⟨_, [none], rfl, V, (Ext.refl _), acc0, rfl, rfl, accR0⟩
    · cases ht
  | some a =>
    refine fnM_body rfl rfl Try.func130 rfl Try.ntmps130 rfl ?_
    refine xp_seq ?_
    refine xp_region rfl ?_
    refine op_pure (pv_assign (v := .slice _ _ _) rfl) ?_
    refine xp_seq ?_
    refine xp_seq ?_
    refine xp_region rfl ?_
    refine op_pure (pv_move (v := .slice _ _ _) rfl) ?_
    refine op_pure (pv_of (v := .bool _) rfl) ?_
    refine xp_cond rfl (fun ht => ?_) (fun ht => ?_)
    · cases ht
    · skip
      refine xp_skip ?_
      refine xp_seq ?_
      refine xp_region rfl ?_
      refine op_buildSlice (zc := [_, _, _]) (vs := []) (cs := []) rfl rfl rfl rfl rfl rfl rfl fun b5 hb5 => ?_
      refine wp_norm [_] rfl ?_
      refine op_pure (pv_move (v := .slice _ _ _) rfl) ?_
      refine op_appendR 0 accR_new rfl rfl rfl (fun V => R.2.ext (ext_wl V)) (flat_len R.1) (flat_plain seenP l) rfl rfl rfl rfl rfl rfl rfl (by omega) rfl (by rw [flat_len R.1, List.length_nil]; omega) fun a2 h1a E1a ha2 => ?_
      refine wp_norm [_] rfl ?_
      refine op_pure (pv_assign (v := .slice _ _ _) rfl) ?_
      refine xp_ret ?_
      refine res_list (vs := [_]) Try.results130 ⟨resV_tmp rfl rfl, trivial⟩ fun V => ?_
      exact ⟨_, [_], rfl, V, E1a, a2, rfl, rfl, ha2⟩
/-- A copy of a season, its reports still owned. -/
theorem clone_okM (s : Season) (A0 A1 A2 A3 : Option Addr) (c0 c1 c2 c3 : Nat) (h : AH) (R : SeasonR h A0 A1 A2 A3 s) (h0 : s.heats.length < 2 ^ 20) (h1 : s.damps.length < 2 ^ 20) (h2 : s.joints.length < 2 ^ 20) (h3 : s.reports.length < 2 ^ 20) :
    FnM Try.prog (.func (.func 92) #[] ([] : List Value).toArray) [seasonV A0 A1 A2 A3 c0 c1 c2 c3 s] h [] (fun v h' M' => ∃ (a : Acc) (B0 B1 B2 : Option Addr) (d0 d1 d2 : Nat), M' = [a.p] ∧ v = .agg #[.slice B0 s.heats.length d0, .slice B1 s.damps.length d1, .slice B2 s.joints.length d2, .slice a.A a.n a.c]
      ∧ Row h' 2 rgC B0 s.heats ∧ Row h' 2 rgC B1 s.damps ∧ Row h' 9 jointC B2 s.joints ∧ AccR 56 3 (s.reports.flatMap seenC) a) := by
  refine fnM_body rfl rfl Try.func92 rfl Try.ntmps92 rfl ?_
  refine xp_seq ?_
  refine xp_region rfl ?_
  refine op_box (v := .agg #[.slice _ _ _, .slice _ _ _, .slice _ _ _, .slice _ _ _]) (cs := [_, _, _, _]) rfl rfl fun b1 hb1 => ?_
  refine wp_norm [_] rfl ?_
  refine op_alloc (cs := [_, _, _, _]) rfl rfl fun b2 hb2 => ?_
  refine wp_norm [_, _] rfl ?_
  refine xp_seq ?_
  refine xp_dw [false, false, true] rfl rfl rfl ?_
  refine dw_pure (i := 0) rfl (by decide +kernel) (pv_fieldAddr rfl rfl rfl rfl 0 rfl) ?_
  refine dw_load (i := 1) rfl (by decide +kernel) ?_
  refine op_loadP 0 (v := .slice _ _ _) rfl rfl rfl rfl ?_
  refine dw_pure (i := 3) rfl (by decide +kernel) (pv_fieldAddr rfl rfl rfl rfl 1 rfl) ?_
  refine dw_load (i := 4) rfl (by decide +kernel) ?_
  refine op_loadP 0 (v := .slice _ _ _) rfl rfl rfl rfl ?_
  refine dw_pure (i := 6) rfl (by decide +kernel) (pv_fieldAddr rfl rfl rfl rfl 2 rfl) ?_
  refine dw_load (i := 7) rfl (by decide +kernel) ?_
  refine op_loadP 0 (v := .slice _ _ _) rfl rfl rfl rfl ?_
  refine dw_pure (i := 9) rfl (by decide +kernel) (pv_fieldAddr rfl rfl rfl rfl 3 rfl) ?_
  refine dw_load (i := 10) rfl (by decide +kernel) ?_
  refine op_loadP 0 (v := .slice _ _ _) rfl rfl rfl rfl ?_
  refine dw_eff (i := 2) rfl (by decide +kernel) ?_
  refine op_fn (caps := []) (vs := [.slice _ _ _]) rfl rfl rfl (cloneRg_ok s.heats A0 c0 h (R.heats.ext (Ext.refl _)) h0) ?_
  rintro _ h4 E4 ⟨B0, d0, rfl, R0⟩
  refine ⟨ext_wlm E4 _, ?_⟩
  refine dw_eff (i := 5) rfl (by decide +kernel) ?_
  refine op_fn (caps := []) (vs := [.slice _ _ _]) rfl rfl rfl (cloneRg_ok s.damps A1 c1 h4 (R.damps.ext E4) h1) ?_
  rintro _ h5 E5 ⟨B1, d1, rfl, R1⟩
  refine ⟨ext_wlm E5 _, ?_⟩
  refine dw_eff (i := 8) rfl (by decide +kernel) ?_
  refine op_fn (caps := []) (vs := [.slice _ _ _]) rfl rfl rfl (cloneJoint_ok s.joints A2 c2 h5 (R.joints.ext (Ext.trans E4 E5)) h2) ?_
  rintro _ h6 E6 ⟨B2, d2, rfl, R2⟩
  refine ⟨ext_wlm E6 _, ?_⟩
  refine dw_last (i := 11) rfl (by decide +kernel) (by decide +kernel) ?_
  refine op_fnMM [_, _] [] [] rfl rfl rfl (cloneSeenO s.reports A3 c3 h6 (R.reports.ext (Ext.trans (Ext.trans E4 E5) E6)) h3) ?_
  rintro _ h7 _ E7 ⟨a, rfl, rfl, ha⟩
  refine dw_norm [_, _, _] rfl ?_
  refine dw_pure (i := 12) rfl (by decide +kernel) (pv_build (zc := [_, _, _, _]) (vs := [(0, .slice _ _ _), (1, .slice _ _ _), (2, .slice _ _ _), (3, .slice _ _ _)]) (cs := [_, _, _, _]) rfl rfl rfl rfl rfl rfl) ?_
  refine dw_last (i := 13) rfl (by decide +kernel) (by decide +kernel) ?_
  refine op_storeP 1 (v := .agg #[.slice _ _ _, .slice _ _ _, .slice _ _ _, .slice _ _ _]) (vs := [_, _, _, _]) (c' := [_, _, _, _]) rfl rfl rfl rfl rfl rfl rfl rfl rfl ?_
  refine dw_norm [_, _, _] rfl ?_
  refine dw_end rfl ?_
  refine xp_ret ?_
  refine res_list (vs := [_]) Try.results92 ⟨resV_agg 1 rfl rfl rfl rfl rfl (vs := [.slice _ _ _, .slice _ _ _, .slice _ _ _, .slice _ _ _]) rfl, trivial⟩ fun V => ?_
  obtain ⟨h9, E9, e9, V9⟩ := wl_shed [_, _] [_] V
  exact ⟨h9, _, e9, V9, Ext.trans (Ext.trans (Ext.trans (Ext.trans E4 E5) E6) E7) E9, a, B0, B1, B2, d0, d1, d2, rfl, rfl, R0.ext (Ext.trans (Ext.trans (Ext.trans E5 E6) E7) E9), R1.ext (Ext.trans (Ext.trans E6 E7) E9), R2.ext (Ext.trans E7 E9), ha⟩
set_option maxHeartbeats 2000000 in
theorem With_ok (s : Season) (Sm : Small s) (r : Seen) (A0 A1 A2 A3 : Option Addr) (c0 c1 c2 c3 : Nat) (h : AH) (R : SeasonR h A0 A1 A2 A3 s) :
    FnT Try.prog 58 #[seasonV A0 A1 A2 A3 c0 c1 c2 c3 s, .agg (seenC r).toArray] h (fun v h' => ∃ u, v = .tuple #[u, .int .i64 (withE s r)] ∧ SeasonS h' (withV s r) u) := by
  have Sm0 := Sm.h0
  have Sm2 := Sm.h2
  refine call_body Try.func58 rfl Try.ntmps58 rfl ?_
  refine xp_seq ?_
  refine xp_region rfl ?_
  refine op_box (v := .agg #[.slice _ _ _, .slice _ _ _, .slice _ _ _, .slice _ _ _]) (cs := [_, _, _, _]) rfl rfl fun b2 hb2 => ?_
  refine wp_norm [_] rfl ?_
  refine op_box (v := .agg #[.int .i64 _, .int .i64 _, .bool _]) (cs := [_, _, _]) rfl rfl fun b3 hb3 => ?_
  refine wp_norm [_, _] rfl ?_
  refine op_alloc (cs := [_, _, _, _]) rfl rfl fun b4 hb4 => ?_
  refine wp_norm [_, _, _] rfl ?_
  refine op_pure (pv_assign (v := .int .i64 _) rfl) ?_
  refine xp_seq ?_
  refine xp_seq ?_
  refine xp_region rfl ?_
  refine op_loadPA 0 (vs := [.slice _ _ _, .slice _ _ _, .slice _ _ _, .slice _ _ _]) rfl rfl rfl rfl rfl ?_
  refine op_fn (caps := []) (vs := [.agg #[.slice _ _ _, .slice _ _ _, .slice _ _ _, .slice _ _ _]]) rfl rfl rfl (check_ok s A0 A1 A2 A3 c0 c1 c2 c3 h (R.ext (Ext.refl _)) Sm.h0 Sm.h1 Sm.h2 Sm.h3) ?_
  rintro _ h1 E1 rfl
  refine op_pure (pv_assign (v := .int .i64 _) rfl) ?_
  refine xp_seq ?_
  refine xp_region rfl ?_
  refine op_pure (pv_move (v := .int .i64 _) rfl) ?_
  refine op_pure (pv_of (v := .bool _) rfl) ?_
  refine xp_cond rfl (fun hc => ?_) (fun hc => ?_)
  · skip
    have hc0 : checkM s ≠ 0 := by simpa using hc
    have hE : withE s r = checkM s := by rw [withE, if_pos hc0]
    refine xp_seq ?_
    refine xp_region rfl ?_
    refine op_pure (pv_build (zc := [_, _, _, _]) (vs := []) (cs := [_, _, _, _]) rfl rfl rfl rfl rfl rfl) ?_
    refine op_pure (pv_move (v := .int .i64 _) rfl) ?_
    refine op_storeP 2 (v := .agg #[.slice _ _ _, .slice _ _ _, .slice _ _ _, .slice _ _ _]) (vs := [_, _, _, _]) (c' := [_, _, _, _]) rfl rfl rfl rfl rfl rfl rfl rfl rfl ?_
    refine wp_norm [_, _, _] rfl ?_
    refine op_pure (pv_assign (v := .int .i64 _) rfl) ?_
    refine xp_ret ?_
    refine res_list (vs := [_, _]) Try.results58 ⟨resV_agg 2 rfl rfl rfl rfl rfl (vs := [.slice _ _ _, .slice _ _ _, .slice _ _ _, .slice _ _ _]) rfl, resV_tmp rfl rfl, trivial⟩ fun V => ?_
    exact ⟨(Ext.trans E1 (ext_wl V)), _, by rw [hE]; rfl, none, none, none, none, 0, 0, 0, 0, by rw [withV, hE, if_neg hc0]; rfl, by rw [withV, hE, if_neg hc0]; exact seasonR_none⟩
  · skip
    have hc0 : checkM s = 0 := by simpa using hc
    have C := CheckS.of hc0
    have h6 := C.w6
    have hdl := C.dl
    have j3 := C.j3
    have r5 := C.r5
    refine xp_skip ?_
    refine xp_seq ?_
    refine xp_seq ?_
    refine xp_region rfl ?_
    refine op_pure (pv_fieldAddr rfl rfl rfl rfl 3 rfl) ?_
    refine op_loadP 0 (v := .slice _ _ _) rfl rfl rfl rfl ?_
    refine op_pure (pv_len rfl rfl) ?_
    refine op_pure (pv_of (v := .bool _) rfl) ?_
    refine xp_cond rfl (fun hf => ?_) (fun hf => ?_)
    · skip
      have hf5 : s.reports.length = 5 := by have := of_decide_eq_true hf; omega
      have hE : withE s r = 6 := by rw [withE, if_neg (by simp [hc0]), if_pos hf5]
      refine xp_seq ?_
      refine xp_region rfl ?_
      refine op_pure (pv_build (zc := [_, _, _, _]) (vs := []) (cs := [_, _, _, _]) rfl rfl rfl rfl rfl rfl) ?_
      refine op_storeP 2 (v := .agg #[.slice _ _ _, .slice _ _ _, .slice _ _ _, .slice _ _ _]) (vs := [_, _, _, _]) (c' := [_, _, _, _]) rfl rfl rfl rfl rfl rfl rfl rfl rfl ?_
      refine wp_norm [_, _, _] rfl ?_
      refine op_pure (pv_assign (v := .int .i64 _) rfl) ?_
      refine xp_ret ?_
      refine res_list (vs := [_, _]) Try.results58 ⟨resV_agg 2 rfl rfl rfl rfl rfl (vs := [.slice _ _ _, .slice _ _ _, .slice _ _ _, .slice _ _ _]) rfl, resV_tmp rfl rfl, trivial⟩ fun V => ?_
      exact ⟨(Ext.trans E1 (ext_wl V)), _, by rw [hE]; rfl, none, none, none, none, 0, 0, 0, 0, by rw [withV, hE]; rfl, by rw [withV, hE]; exact seasonR_none⟩
    · skip
      have hf5 : ¬ s.reports.length = 5 := by have := of_decide_eq_false hf; omega
      refine xp_skip ?_
      refine xp_seq ?_
      refine xp_seq ?_
      refine xp_region rfl ?_
      refine op_loadPA 0 (vs := [.slice _ _ _, .slice _ _ _, .slice _ _ _, .slice _ _ _]) rfl rfl rfl rfl rfl ?_
      refine op_loadPA 1 (vs := [.int .i64 _, .int .i64 _, .bool _]) rfl rfl rfl rfl rfl ?_
      refine op_fn (caps := []) (vs := [.agg #[.slice _ _ _, .slice _ _ _, .slice _ _ _, .slice _ _ _], .agg #[.int .i64 _, .int .i64 _, .bool _]]) rfl rfl rfl (checkSeen_ok s r A0 A1 A2 A3 c0 c1 c2 c3 Sm2 Sm0 h1) ?_
      rintro _ h2 E2 rfl
      refine op_pure (pv_assign (v := .int .i64 _) rfl) ?_
      refine xp_seq ?_
      refine xp_region rfl ?_
      refine op_pure (pv_move (v := .int .i64 _) rfl) ?_
      refine op_pure (pv_of (v := .bool _) rfl) ?_
      refine xp_cond rfl (fun hs => ?_) (fun hs => ?_)
      · skip
        have hs0 : checkSeenM s r ≠ 0 := by simpa using hs
        have hE : withE s r = checkSeenM s r := by rw [withE, if_neg (by simp [hc0]), if_neg hf5, if_pos hs0]
        refine xp_seq ?_
        refine xp_region rfl ?_
        refine op_pure (pv_build (zc := [_, _, _, _]) (vs := []) (cs := [_, _, _, _]) rfl rfl rfl rfl rfl rfl) ?_
        refine op_pure (pv_move (v := .int .i64 _) rfl) ?_
        refine op_storeP 2 (v := .agg #[.slice _ _ _, .slice _ _ _, .slice _ _ _, .slice _ _ _]) (vs := [_, _, _, _]) (c' := [_, _, _, _]) rfl rfl rfl rfl rfl rfl rfl rfl rfl ?_
        refine wp_norm [_, _, _] rfl ?_
        refine op_pure (pv_assign (v := .int .i64 _) rfl) ?_
        refine xp_ret ?_
        refine res_list (vs := [_, _]) Try.results58 ⟨resV_agg 2 rfl rfl rfl rfl rfl (vs := [.slice _ _ _, .slice _ _ _, .slice _ _ _, .slice _ _ _]) rfl, resV_tmp rfl rfl, trivial⟩ fun V => ?_
        exact ⟨(Ext.trans (Ext.trans E1 E2) (ext_wl V)), _, by rw [hE]; rfl, none, none, none, none, 0, 0, 0, 0, by rw [withV, hE, if_neg hs0]; rfl, by rw [withV, hE, if_neg hs0]; exact seasonR_none⟩
      · skip
        have hs0 : checkSeenM s r = 0 := by simpa using hs
        have CW : CheckS (withS s r) := ⟨C.w1, C.w6, C.dl, C.h, C.d, C.j3, C.j, by show (s.reports ++ [r]).length ≤ 5; rw [List.length_append, List.length_singleton]; omega, fun q hq => by
          rcases List.mem_append.1 hq with hq | hq
          · exact checkSeen_iff.2 (checkSeen_iff.1 (C.r q hq))
          · rw [List.mem_singleton.1 hq]; exact checkSeen_iff.2 (checkSeen_iff.1 hs0)⟩
        refine xp_skip ?_
        refine xp_seq ?_
        refine xp_region rfl ?_
        refine op_loadPA 0 (vs := [.slice _ _ _, .slice _ _ _, .slice _ _ _, .slice _ _ _]) rfl rfl rfl rfl rfl ?_
        refine op_fnMM [_, _, _] [] [] rfl rfl rfl (clone_okM s A0 A1 A2 A3 c0 c1 c2 c3 h2 (R.ext (Ext.trans E1 E2)) (by omega) (by omega) (by omega) (by omega)) ?_
        rintro _ h3 _ E3 ⟨a, B0, B1, B2, d0, d1, d2, rfl, rfl, R0, R1, R2, ha⟩
        refine wp_norm [_, _, _, _] rfl ?_
        refine op_storeP 0 (v := .agg #[.slice _ _ _, .slice _ _ _, .slice _ _ _, .slice _ _ _]) (vs := [_, _, _, _]) (c' := [_, _, _, _]) rfl rfl rfl rfl rfl rfl rfl rfl rfl ?_
        refine wp_norm [_, _, _, _] rfl ?_
        refine xp_seq ?_
        refine xp_region rfl ?_
        refine op_pure (pv_fieldAddr rfl rfl rfl rfl 3 rfl) ?_
        refine op_loadP 0 (v := .slice _ _ _) rfl rfl rfl rfl ?_
        refine op_loadPA 1 (vs := [.int .i64 _, .int .i64 _, .bool _]) rfl rfl rfl rfl rfl ?_
        refine op_buildSlice (zc := [_, _, _]) (vs := [(0, .agg #[.int .i64 _, .int .i64 _, .bool _])]) (cs := [_, _, _]) rfl rfl rfl rfl rfl rfl rfl fun b33 hb33 => ?_
        refine wp_norm [_, _, _, _, _] rfl ?_
        refine op_appendR 3 ha rfl rfl rfl (fun V => rdP V (i := 4) rfl) rfl rfl rfl rfl rfl rfl rfl rfl rfl (by omega) rfl (by rw [flat_len (m := 3) (fun _ _ => rfl)]; simp; omega) fun a2 h1a E1a ha2 => ?_
        refine wp_norm [_, _, _, _, _] rfl ?_
        obtain ⟨p7, A7, n7, c7⟩ := a2
        obtain rfl : n7 = (withS s r).reports.length := by have := AccR.len ha2; rw [List.length_append, flat_len (m := 3) (fun _ _ => rfl)] at this; simp [withS] at this ⊢; omega
        dsimp only
        refine op_pure (pv_fieldAddr rfl rfl rfl rfl 3 rfl) ?_
        refine op_storeP 0 (v := .slice _ _ _) (vs := [_]) (c' := [_, _, _, _]) rfl rfl rfl rfl rfl rfl rfl rfl rfl ?_
        refine wp_norm [_, _, _, _, _] rfl ?_
        refine goes_pubO 3 rfl ?_
        intro g7 G7 P7
        refine goes_norm [_, _, _, _, _] rfl ?_
        have RW : SeasonR g7 B0 B1 B2 A7 (withS s r) := ⟨R0.ext (Ext.trans E1a G7), R1.ext (Ext.trans E1a G7), R2.ext (Ext.trans E1a G7), ⟨fun _ _ => rfl, by have := AccR.rd ha2 P7; rw [show (withS s r).reports = s.reports ++ [r] from rfl, List.flatMap_append]; exact this⟩⟩
        refine xp_seq ?_
        refine xp_seq ?_
        refine xp_region rfl ?_
        refine op_loadPA 0 (vs := [.slice _ _ _, .slice _ _ _, .slice _ _ _, .slice _ _ _]) rfl rfl rfl rfl rfl ?_
        refine op_fn (caps := []) (vs := [.agg #[.slice _ _ _, .slice _ _ _, .slice _ _ _, .slice _ _ _]]) rfl rfl rfl (bothOf_ok (withS s r) CW.b B0 B1 B2 A7 d0 d1 d2 c7 g7 RW) ?_
        rintro _ h8 E8 ⟨_, rfl, A, c, mf, fm, fl, A', c', mf', fm', fl', rfl, X, X'⟩
        refine op_pure (pv_move (v := .tuple #[.agg #[.slice _ _ _, .map _, .map _, .map _, .map _, .slice _ _ _, .map _, .map _, .map _, .map _], .bool _]) rfl) ?_
        refine op_pure (pv_of (v := .agg #[.slice _ _ _, .map _, .map _, .map _, .map _, .slice _ _ _, .map _, .map _, .map _, .map _]) rfl) ?_
        refine op_pure (pv_of (v := .bool _) rfl) ?_
        refine op_alloc (cs := [_, _, _, _, _, _, _, _, _, _]) rfl rfl fun b8 hb8 => ?_
        refine wp_norm [_, _, _, _, _, _] rfl ?_
        refine op_storeP 5 (v := .agg #[.slice _ _ _, .map _, .map _, .map _, .map _, .slice _ _ _, .map _, .map _, .map _, .map _]) (vs := [_, _, _, _, _, _, _, _, _, _]) (c' := [_, _, _, _, _, _, _, _, _, _]) rfl rfl rfl rfl rfl rfl rfl rfl rfl ?_
        refine wp_norm [_, _, _, _, _, _] rfl ?_
        refine op_pure (pv_assign (v := .bool _) rfl) ?_
        refine xp_seq ?_
        refine xp_region rfl ?_
        refine op_pure (pv_move (v := .bool _) rfl) ?_
        refine op_pure (pv_of (v := .bool _) rfl) ?_
        refine xp_cond rfl (fun hm => ?_) (fun hm => ?_)
        · skip
          have hm0 : mayM (withS s r) = false := by simpa using hm
          have hE : withE s r = 9 := by rw [withE, if_neg (by simp [hc0]), if_neg hf5, if_neg (by simp [hs0]), hm0]; rfl
          refine xp_seq ?_
          refine xp_region rfl ?_
          refine op_pure (pv_build (zc := [_, _, _, _]) (vs := []) (cs := [_, _, _, _]) rfl rfl rfl rfl rfl rfl) ?_
          refine op_storeP 2 (v := .agg #[.slice _ _ _, .slice _ _ _, .slice _ _ _, .slice _ _ _]) (vs := [_, _, _, _]) (c' := [_, _, _, _]) rfl rfl rfl rfl rfl rfl rfl rfl rfl ?_
          refine wp_norm [_, _, _, _, _, _] rfl ?_
          refine op_pure (pv_assign (v := .int .i64 _) rfl) ?_
          refine xp_ret ?_
          refine res_list (vs := [_, _]) Try.results58 ⟨resV_agg 2 rfl rfl rfl rfl rfl (vs := [.slice _ _ _, .slice _ _ _, .slice _ _ _, .slice _ _ _]) rfl, resV_tmp rfl rfl, trivial⟩ fun V => ?_
          exact ⟨(Ext.trans (Ext.trans (Ext.trans (Ext.trans (Ext.trans (Ext.trans E1 E2) E3) E1a) G7) E8) (ext_wl V)), _, by rw [hE]; rfl, none, none, none, none, 0, 0, 0, 0, by rw [withV, hE]; rfl, by rw [withV, hE]; exact seasonR_none⟩
        · skip
          have hm0 : mayM (withS s r) = true := by simpa using hm
          have hE : withE s r = 0 := by rw [withE, if_neg (by simp [hc0]), if_neg hf5, if_neg (by simp [hs0]), hm0]; rfl
          refine xp_skip ?_
          refine xp_seq ?_
          refine xp_region rfl ?_
          refine op_loadPA 0 (vs := [.slice _ _ _, .slice _ _ _, .slice _ _ _, .slice _ _ _]) rfl rfl rfl rfl rfl ?_
          refine op_storeP 2 (v := .agg #[.slice _ _ _, .slice _ _ _, .slice _ _ _, .slice _ _ _]) (vs := [_, _, _, _]) (c' := [_, _, _, _]) rfl rfl rfl rfl rfl rfl rfl rfl rfl ?_
          refine wp_norm [_, _, _, _, _, _] rfl ?_
          refine op_pure (pv_assign (v := .int .i64 _) rfl) ?_
          refine xp_ret ?_
          refine res_list (vs := [_, _]) Try.results58 ⟨resV_agg 2 rfl rfl rfl rfl rfl (vs := [.slice _ _ _, .slice _ _ _, .slice _ _ _, .slice _ _ _]) rfl, resV_tmp rfl rfl, trivial⟩ fun V => ?_
          exact ⟨(Ext.trans (Ext.trans (Ext.trans (Ext.trans (Ext.trans (Ext.trans E1 E2) E3) E1a) G7) E8) (ext_wl V)), _, by rw [hE]; rfl, B0, B1, B2, A7, d0, d1, d2, c7, by rw [withV, if_pos hE]; rfl, by rw [withV, if_pos hE]; exact RW.ext (Ext.trans E8 (ext_wl V))⟩
end Go.Proofs.Ytndfkbapoinmkaa
/- Walks: the fewest reports that must be wrong. Conditions: as each theorem states. -/
namespace Go.Proofs.Ytndfkbapoinmkaa
open Go Go.HL Go.Proofs Go.Wx
set_option maxRecDepth 100000
theorem index_ok (l : List Int) (z : Int) (A : Option Addr) (c : Nat) (h : AH) (R : Row h 1 intC A l) (hl : l.length < 2 ^ 40) :
    FnT Try.prog 141 #[.slice A l.length c, .int .i64 z] h (fun v _ => ∃ i : Int, v = .int .i64 i ∧ decide (i ≥ 0) = decide (z ∈ l)) := by
  refine call_body Try.func141 rfl Try.ntmps141 rfl ?_
  refine xp_seq ?_
  refine xp_region rfl ?_
  refine op_pure (pv_assign (v := .int .i64 _) rfl) ?_
  refine xp_seq ?_
  refine xp_seq ?_
  refine xp_region rfl ?_
  refine op_pure (pv_move (v := .slice _ _ _) rfl) ?_
  refine op_pure (pv_len rfl rfl) ?_
  refine op_pure (pv_move (v := .int .i64 _) rfl) ?_
  refine xp_block ?_
  refine xp_loopB [4, 5, 8, 9, 10, 11, 12, 13, 14, 15, 16, 17, 18] 0 (α := Nat) (fun k => [(8, .int .i64 k)]) (fun k => _) (fun k h_k => k ≤ l.length ∧ z ∉ l.take k) (fun k => l.length - k) (0) ⟨rfl, trivial⟩ (rfl) (⟨Nat.zero_le _, by simp⟩) ?_
  rintro k T1 h_k E_k J_k
  refine goes_norm [] rfl ?_
  obtain ⟨K1, K2⟩ := J_k
  refine xp_seq ?_
  refine xp_region rfl ?_
  refine op_pure (pv_of (v := .bool _) rfl) ?_
  refine xp_seq ?_
  refine xp_cond rfl (fun hk => ?_) (fun hk => ?_)
  · skip
    have hkl : k < l.length := ltI hk
    obtain ⟨g, off, hA, hc⟩ := (R.ext E_k).at (by omega) hkl
    refine xp_skip ?_
    refine xp_seq ?_
    refine xp_block ?_
    refine xp_seq ?_
    refine xp_region rfl ?_
    refine op_pure (pv_move (v := .int .i64 _) rfl) ?_
    refine op_pure (pv_assign (v := .int .i64 _) rfl) ?_
    refine xp_seq ?_
    refine xp_region rfl ?_
    refine op_pure (pv_move (v := .int .i64 _) rfl) ?_
    refine op_pure (pv_move (v := .slice _ _ _) rfl) ?_
    refine op_pure (pv_move (v := .int .i64 _) rfl) ?_
    refine op_pure (pv_indexE rfl hA rfl rfl rfl (by omega) (by omega)) ?_
    refine op_load (v := .int .i64 _) rfl rfl ((hc) 0 _ rfl) ?_
    refine op_pure (pv_of (v := .bool _) rfl) ?_
    refine xp_cond rfl (fun he => ?_) (fun he => ?_)
    · skip
      have he' : z = l[k] := by simpa using he
      have hz : z ∈ l := by rw [he']; exact List.getElem_mem hkl
      refine xp_seq ?_
      refine xp_region rfl ?_
      refine op_pure (pv_move (v := .int .i64 _) rfl) ?_
      refine op_pure (pv_assign (v := .int .i64 _) rfl) ?_
      refine xp_ret ?_
      refine res_list (vs := [_]) Try.results141 ⟨resV_tmp rfl rfl, trivial⟩ fun V => ?_
      exact ⟨(Ext.trans E_k (ext_wl V)), k, rfl, by rw [decide_eq_true hz]; exact decide_eq_true (by omega)⟩
    · skip
      have he' : ¬ z = l[k] := by simpa using he
      refine xp_skip ?_
      refine xp_region rfl ?_
      refine op_pure (pv_arith rfl (by omega)) ?_
      refine op_pure (pv_move (v := .int .i64 _) rfl) ?_
      refine ⟨k + 1, ⟨rfl, trivial⟩, rfl, rfl, E_k, fun h3 E3 => ⟨hkl, by rw [take_snoc hkl, List.mem_append, List.mem_singleton]; exact fun h => h.elim K2 he'⟩, by first | omega | (dsimp only; omega), ?_⟩
      repeat (first | exact off_base _ _ _ | refine off_upd (by decide) ?_ | refine off_updL rfl ?_ | refine off_mix rfl ?_)
  · skip
    have hke : k = l.length := by have := geI hk; omega
    subst hke
    rw [List.take_length] at K2
    refine xp_exit ?_
    refine xp_seq ?_
    refine xp_region rfl ?_
    refine op_pure (pv_assign (v := .int .i64 _) rfl) ?_
    refine xp_ret ?_
    refine res_list (vs := [_]) Try.results141 ⟨resV_tmp rfl rfl, trivial⟩ fun V => ?_
    exact ⟨(Ext.trans E_k (ext_wl V)), -1, rfl, by rw [decide_eq_false K2]; rfl⟩
theorem contains_ok (l : List Int) (z : Int) (A : Option Addr) (c : Nat) (h : AH) (R : Row h 1 intC A l) (hl : l.length < 2 ^ 40) :
    FnT Try.prog 123 #[.slice A l.length c, .int .i64 z] h (fun v _ => v = .bool (decide (z ∈ l))) := by
  refine call_body Try.func123 rfl Try.ntmps123 rfl ?_
  refine xp_seq ?_
  refine xp_region rfl ?_
  refine op_pure (pv_assign (v := .bool _) rfl) ?_
  refine xp_seq ?_
  refine xp_region rfl ?_
  refine op_pure (pv_move (v := .slice _ _ _) rfl) ?_
  refine op_pure (pv_move (v := .int .i64 _) rfl) ?_
  refine op_fn (caps := []) (vs := [.slice _ _ _, .int .i64 _]) rfl rfl rfl (index_ok l z A c h R hl) ?_
  rintro _ h1 E1 ⟨i, rfl, hi⟩
  refine op_pure (pv_of (v := .bool _) rfl) ?_
  refine op_pure (pv_assign (v := .bool _) rfl) ?_
  refine xp_ret ?_
  refine res_list (vs := [_]) Try.results123 ⟨resV_tmp rfl rfl, trivial⟩ fun V => ?_
  exact ⟨(Ext.trans E1 (ext_wl V)), congrArg Value.bool hi⟩
set_option maxHeartbeats 1000000 in
theorem wrong1_will (s : Season) (C : CheckS s) (A0 A1 A2 A3 : Option Addr) (c0 c1 c2 c3 : Nat) (b1 : Nat) (h : AH) (R : SeasonR h A0 A1 A2 A3 s)
    (e1 : h b1 = some (.cells #[.slice A0 s.heats.length c0, .slice A1 s.damps.length c1, .slice A2 s.joints.length c2, .slice A3 s.reports.length c3] 26 (0, 0))) :
    Will (.func (.func 122) #[] #[.pointer (some ⟨b1, 0, none⟩)]) h (fun l => mayM (withoutS s l)) := by
  intro h' E _ l B c RB hl
  have r5 := C.r5
  refine callV_fn (caps := [.pointer (some ⟨b1, 0, none⟩)]) rfl ?_
  refine call_body Try.func122 rfl Try.ntmps122 rfl ?_
  refine goes_more ?_
  refine goes_norm [_] rfl ?_
  refine xp_seq ?_
  refine xp_region rfl ?_
  refine op_pure (pv_assign (v := .bool _) rfl) ?_
  refine xp_seq ?_
  refine xp_region rfl ?_
  refine op_loadA (cs := [.slice _ _ _, .slice _ _ _, .slice _ _ _, .slice _ _ _]) rfl rfl rfl rfl (cells_blk (E _ _ e1)) ?_
  refine op_alloc (cs := [_, _, _, _]) rfl rfl fun b4 hb4 => ?_
  refine wp_norm [_, _] rfl ?_
  refine op_storeP 1 (v := .agg #[.slice _ _ _, .slice _ _ _, .slice _ _ _, .slice _ _ _]) (vs := [_, _, _, _]) (c' := [_, _, _, _]) rfl rfl rfl rfl rfl rfl rfl rfl rfl ?_
  refine wp_norm [_, _] rfl ?_
  refine xp_seq ?_
  refine xp_region rfl ?_
  refine op_pure (pv_fieldAddr rfl rfl rfl rfl 3 rfl) ?_
  refine op_storeP 1 (v := .slice _ _ _) (vs := [_]) (c' := [_, _, _, _]) rfl rfl rfl rfl rfl rfl rfl rfl rfl ?_
  refine wp_norm [_, _] rfl ?_
  refine xp_seq ?_
  refine xp_seq ?_
  refine xp_region rfl ?_
  refine op_pure (pv_fieldAddr rfl rfl rfl rfl _ rfl) ?_
  refine op_load (v := .slice _ _ _) rfl rfl (by simp only [cellA, E _ _ e1]; rfl) ?_
  refine op_pure (pv_len rfl rfl) ?_
  refine op_pure (pv_move (v := .int .i64 _) rfl) ?_
  refine xp_block ?_
  refine xp_loopL [5, 6, 14, 15, 16, 17, 18, 19, 20, 21, 22, 23, 24, 25, 26, 27, 28, 29] 2 (α := Nat × Acc) (fun ⟨k, a⟩ => [(14, .int .i64 k)]) (fun ⟨k, a⟩ L => (L.set 1 (some (b4, .cells #[.slice A0 s.heats.length c0, .slice A1 s.damps.length c1, .slice A2 s.joints.length c2, .slice a.A a.n a.c] 26 (0, 0)))).set 0 (a.p)) (fun ⟨k, a⟩ h_k => k ≤ s.reports.length ∧ AccR 56 3 ((keepN l 0 (s.reports.take k)).flatMap seenC) a) (fun ⟨k, a⟩ => s.reports.length - k) ((0, acc0)) ⟨rfl, trivial⟩ (rfl) (⟨Nat.zero_le _, accR0⟩) ?_
  rintro ⟨k, a⟩ T1 h_k E_k J_k
  refine goes_norm [_, _] rfl ?_
  obtain ⟨K1, K2⟩ := J_k
  refine xp_seq ?_
  refine xp_region rfl ?_
  refine op_pure (pv_of (v := .bool _) rfl) ?_
  refine xp_seq ?_
  refine xp_cond rfl (fun hk => ?_) (fun hk => ?_)
  · skip
    have hkl : k < s.reports.length := ltI hk
    obtain ⟨g, off, hA, hcs⟩ := (R.reports.ext (Ext.trans E E_k)).at (by omega) hkl
    have hsn : keepN l 0 (s.reports.take (k + 1)) = keepN l 0 (s.reports.take k) ++ if ((k : Nat) : Int) ∈ l then [] else [s.reports[k]] := by
      rw [take_snoc hkl, keepN_snoc, List.length_take, Nat.min_eq_left (by omega), Nat.zero_add]
    refine xp_skip ?_
    refine xp_seq ?_
    refine xp_block ?_
    refine xp_seq ?_
    refine xp_region rfl ?_
    refine op_pure (pv_move (v := .int .i64 _) rfl) ?_
    refine op_pure (pv_indexE rfl hA rfl rfl rfl (by omega) (by omega)) ?_
    refine op_loadA rfl rfl rfl rfl (hcs) ?_
    refine op_alloc (cs := [_, _, _]) rfl rfl fun b6 hb6 => ?_
    refine wp_norm [_, _, _] rfl ?_
    refine op_pure (pv_assign (v := .int .i64 _) rfl) ?_
    refine op_storeP 2 (v := .agg #[.int .i64 _, .int .i64 _, .bool _]) (vs := [_, _, _]) (c' := [_, _, _]) rfl rfl rfl rfl rfl rfl rfl rfl rfl ?_
    refine wp_norm [_, _, _] rfl ?_
    refine xp_seq ?_
    refine xp_region rfl ?_
    refine op_pure (pv_move (v := .slice _ _ _) rfl) ?_
    refine op_pure (pv_move (v := .int .i64 _) rfl) ?_
    refine op_fn (caps := []) (vs := [.slice _ _ _, .int .i64 _]) rfl rfl rfl (contains_ok l k B c h_k (RB.ext E_k) (by omega)) ?_
    rintro _ h3 E3 rfl
    refine op_pure (pv_of (v := .bool _) rfl) ?_
    refine xp_cond rfl (fun hin => ?_) (fun hin => ?_)
    · skip
      have hin' : ¬ ((k : Nat) : Int) ∈ l := by simpa using hin
      refine xp_region rfl ?_
      refine op_pure (pv_fieldAddr rfl rfl rfl rfl 3 rfl) ?_
      refine op_loadP 1 (v := .slice _ _ _) rfl rfl rfl rfl ?_
      refine op_loadPA 2 (vs := [.int .i64 _, .int .i64 _, .bool _]) rfl rfl rfl rfl rfl ?_
      refine op_buildSlice (zc := [_, _, _]) (vs := [(0, .agg #[.int .i64 _, .int .i64 _, .bool _])]) (cs := [_, _, _]) rfl rfl rfl rfl rfl rfl rfl fun b26 hb26 => ?_
      refine wp_norm [_, _, _, _] rfl ?_
      refine op_appendR 0 K2 rfl rfl rfl (fun V => rdP V (i := 3) rfl) rfl rfl rfl rfl rfl rfl rfl rfl rfl (by omega) rfl (by rw [flat_len (m := 3) (fun _ _ => rfl)]; have := keepN_len l (s.reports.take k) 0; simp at this ⊢; omega) fun a2 h2a E2a ha2 => ?_
      refine wp_norm [_, _, _, _] rfl ?_
      refine op_pure (pv_fieldAddr rfl rfl rfl rfl 3 rfl) ?_
      refine op_storeP 1 (v := .slice _ _ _) (vs := [_]) (c' := [_, _, _, _]) rfl rfl rfl rfl rfl rfl rfl rfl rfl ?_
      refine wp_norm [_, _, _, _] rfl ?_
      refine xp_region rfl ?_
      refine op_pure (pv_arith rfl (by omega)) ?_
      refine op_pure (pv_move (v := .int .i64 _) rfl) ?_
      refine ⟨(k + 1, a2), ⟨rfl, trivial⟩, rfl, rfl, (Ext.trans (Ext.trans E_k E3) E2a), fun h3 E3 => ⟨hkl, by rw [hsn, if_neg hin', List.flatMap_append]; exact ha2⟩, by first | omega | (dsimp only; omega), ?_⟩
      repeat (first | exact off_base _ _ _ | refine off_upd (by decide) ?_ | refine off_updL rfl ?_ | refine off_mix rfl ?_)
    · skip
      have hin' : ((k : Nat) : Int) ∈ l := by simpa using hin
      refine xp_skip ?_
      refine xp_region rfl ?_
      refine op_pure (pv_arith rfl (by omega)) ?_
      refine op_pure (pv_move (v := .int .i64 _) rfl) ?_
      refine ⟨(k + 1, a), ⟨rfl, trivial⟩, rfl, rfl, (Ext.trans E_k E3), fun h3 E3 => ⟨hkl, by rw [hsn, if_pos hin', List.append_nil]; exact K2⟩, by first | omega | (dsimp only; omega), ?_⟩
      repeat (first | exact off_base _ _ _ | refine off_upd (by decide) ?_ | refine off_updL rfl ?_ | refine off_mix rfl ?_)
  · skip
    have hke : k = s.reports.length := by have := geI hk; omega
    subst hke
    rw [List.take_length] at K2
    obtain ⟨p7, A7, n7, c7⟩ := a
    obtain rfl : n7 = (withoutS s l).reports.length := by have := AccR.len K2; rw [flat_len (m := 3) (fun _ _ => rfl)] at this; simp [withoutS] at this ⊢; omega
    dsimp only
    refine goes_pubO 0 rfl ?_
    intro g7 G7 P7
    refine goes_norm [_, _] rfl ?_
    have CW := C.without l
    have RW : SeasonR g7 A0 A1 A2 A7 (withoutS s l) := ⟨R.heats.ext (Ext.trans E (Ext.trans E_k G7)), R.damps.ext (Ext.trans E (Ext.trans E_k G7)), R.joints.ext (Ext.trans E (Ext.trans E_k G7)), ⟨fun _ _ => rfl, AccR.rd K2 P7⟩⟩
    refine xp_exit ?_
    refine xp_seq ?_
    refine xp_region rfl ?_
    refine op_loadPA 1 (vs := [.slice _ _ _, .slice _ _ _, .slice _ _ _, .slice _ _ _]) rfl rfl rfl rfl rfl ?_
    refine op_fn (caps := []) (vs := [.agg #[.slice _ _ _, .slice _ _ _, .slice _ _ _, .slice _ _ _]]) rfl rfl rfl (bothOf_ok (withoutS s l) CW.b A0 A1 A2 A7 c0 c1 c2 c7 g7 RW) ?_
    rintro _ h8 E8 ⟨_, rfl, A, c, mf, fm, fl, A', c', mf', fm', fl', rfl, X, X'⟩
    refine op_pure (pv_move (v := .tuple #[.agg #[.slice _ _ _, .map _, .map _, .map _, .map _, .slice _ _ _, .map _, .map _, .map _, .map _], .bool _]) rfl) ?_
    refine op_pure (pv_of (v := .agg #[.slice _ _ _, .map _, .map _, .map _, .map _, .slice _ _ _, .map _, .map _, .map _, .map _]) rfl) ?_
    refine op_pure (pv_of (v := .bool _) rfl) ?_
    refine op_alloc (cs := [_, _, _, _, _, _, _, _, _, _]) rfl rfl fun b7 hb7 => ?_
    refine wp_norm [_, _, _] rfl ?_
    refine op_storeP 2 (v := .agg #[.slice _ _ _, .map _, .map _, .map _, .map _, .slice _ _ _, .map _, .map _, .map _, .map _]) (vs := [_, _, _, _, _, _, _, _, _, _]) (c' := [_, _, _, _, _, _, _, _, _, _]) rfl rfl rfl rfl rfl rfl rfl rfl rfl ?_
    refine wp_norm [_, _, _] rfl ?_
    refine op_pure (pv_assign (v := .bool _) rfl) ?_
    refine xp_seq ?_
    refine xp_region rfl ?_
    refine op_pure (pv_move (v := .bool _) rfl) ?_
    refine op_pure (pv_assign (v := .bool _) rfl) ?_
    refine xp_ret ?_
    refine res_list (vs := [_]) Try.results122 ⟨resV_tmp rfl rfl, trivial⟩ fun V => ?_
    exact ⟨(Ext.trans (Ext.trans (Ext.trans E_k G7) E8) (ext_wl V)), rfl⟩
set_option maxHeartbeats 1000000 in
theorem Wrong_ok (s : Season) (Sm : Small s) (A0 A1 A2 A3 : Option Addr) (c0 c1 c2 c3 : Nat) (h : AH) (R : SeasonR h A0 A1 A2 A3 s) :
    FnT Try.prog 65 #[seasonV A0 A1 A2 A3 c0 c1 c2 c3 s] h (fun v h' => ∃ u, v = .tuple #[u, .int .i64 (checkM s)] ∧ SlR h' 1 intC (wrongL s) u) := by
  refine call_body Try.func65 rfl Try.ntmps65 rfl ?_
  refine xp_seq ?_
  refine xp_region rfl ?_
  refine op_box (v := .agg #[.slice _ _ _, .slice _ _ _, .slice _ _ _, .slice _ _ _]) (cs := [_, _, _, _]) rfl rfl fun b1 hb1 => ?_
  refine wp_norm [_] rfl ?_
  refine op_pure (pv_assign (v := .slice _ _ _) rfl) ?_
  refine op_pure (pv_assign (v := .int .i64 _) rfl) ?_
  refine goes_pub 0 rfl ?_
  intro h1 E1 p1
  refine xp_seq ?_
  refine xp_seq ?_
  refine xp_region rfl ?_
  refine op_loadA (cs := [.slice _ _ _, .slice _ _ _, .slice _ _ _, .slice _ _ _]) rfl rfl rfl rfl (cells_blk p1) ?_
  refine op_fn (caps := []) (vs := [.agg #[.slice _ _ _, .slice _ _ _, .slice _ _ _, .slice _ _ _]]) rfl rfl rfl (check_ok s A0 A1 A2 A3 c0 c1 c2 c3 h1 (R.ext E1) Sm.h0 Sm.h1 Sm.h2 Sm.h3) ?_
  rintro _ h2 E2 rfl
  refine op_pure (pv_assign (v := .int .i64 _) rfl) ?_
  refine xp_seq ?_
  refine xp_region rfl ?_
  refine op_pure (pv_move (v := .int .i64 _) rfl) ?_
  refine op_pure (pv_of (v := .bool _) rfl) ?_
  refine xp_cond rfl (fun hc => ?_) (fun hc => ?_)
  · skip
    have hc0 : checkM s ≠ 0 := by simpa using hc
    refine xp_seq ?_
    refine xp_region rfl ?_
    refine op_pure (pv_move (v := .int .i64 _) rfl) ?_
    refine op_pure (pv_assign (v := .slice _ _ _) rfl) ?_
    refine op_pure (pv_assign (v := .int .i64 _) rfl) ?_
    refine xp_ret ?_
    refine res_list (vs := [_, _]) Try.results65 ⟨resV_tmp rfl rfl, resV_tmp rfl rfl, trivial⟩ fun V => ?_
    refine ⟨(Ext.trans (Ext.trans E1 E2) (ext_wl V)), _, rfl, none, 0, ?_, ?_⟩
    · rw [wrongL, if_neg hc0]; rfl
    · rw [wrongL, if_neg hc0]; exact ⟨fun _ h => (by cases h), Rd.nil _ _⟩
  · skip
    have hc0 : checkM s = 0 := by simpa using hc
    have C := CheckS.of hc0
    have r5 := C.r5
    refine xp_skip ?_
    refine xp_seq ?_
    refine xp_region rfl ?_
    refine op_pure (pv_fieldAddr rfl rfl rfl rfl _ rfl) ?_
    refine op_load (v := .slice _ _ _) rfl rfl (by simp only [cellA, E2 _ _ p1]; rfl) ?_
    refine op_pure (pv_len rfl rfl) ?_
    refine op_pure (pv_makeFunc (vs := []) (ws := [_]) rfl rfl) ?_
    refine op_fn (caps := []) (vs := [.int .i64 _, _]) rfl rfl rfl (fewest_ok s.reports.length (by omega) _ _ _ _ h2 (wrong1_will s C A0 A1 A2 A3 c0 c1 c2 c3 b1 _ (R.ext (Ext.trans E1 E2)) (E2 _ _ p1))) ?_
    rintro _ h7 E7 ⟨u, rfl, B, cB, rfl, RB⟩
    refine op_pure (pv_move (v := .tuple #[.slice _ _ _, .bool _]) rfl) ?_
    refine op_pure (pv_of (v := .slice _ _ _) rfl) ?_
    refine op_pure (pv_of (v := .bool _) rfl) ?_
    refine op_pure (pv_assign (v := .slice _ _ _) rfl) ?_
    refine op_pure (pv_assign (v := .bool _) rfl) ?_
    refine xp_seq ?_
    refine xp_region rfl ?_
    refine op_pure (pv_move (v := .slice _ _ _) rfl) ?_
    refine op_pure (pv_assign (v := .slice _ _ _) rfl) ?_
    refine op_pure (pv_assign (v := .int .i64 _) rfl) ?_
    refine xp_ret ?_
    refine res_list (vs := [_, _]) Try.results65 ⟨resV_tmp rfl rfl, resV_tmp rfl rfl, trivial⟩ fun V => ?_
    refine ⟨(Ext.trans (Ext.trans (Ext.trans E1 E2) E7) (ext_wl V)), _, by rw [hc0]; rfl, B, cB, ?_, ?_⟩
    · rw [wrongL, if_pos hc0]; rfl
    · rw [wrongL, if_pos hc0]; exact RB.ext (ext_wl V)
end Go.Proofs.Ytndfkbapoinmkaa
/- Plain: the least and the greatest weather; how many joints are sound. Conditions: as each theorem states. -/
namespace Go.Wx
open Go Go.HL
/-- The least weather of a week among the first k, and the greatest. -/
def loK (l : List Sky) (w k : Nat) : Int := (l.take k).foldl (fun m x => min m (x.at w)) ((l.headD sky0).at w)
def hiK (l : List Sky) (w k : Nat) : Int := (l.take k).foldl (fun m x => max m (x.at w)) ((l.headD sky0).at w)
theorem loK_succ {l : List Sky} {w k : Nat} (h : k < l.length) : loK l w (k + 1) = min (loK l w k) (l[k].at w) := by
  unfold loK; rw [take_snoc h, List.foldl_append]; rfl
theorem hiK_succ {l : List Sky} {w k : Nat} (h : k < l.length) : hiK l w (k + 1) = max (hiK l w k) (l[k].at w) := by
  unfold hiK; rw [take_snoc h, List.foldl_append]; rfl
def weekR (l : List Sky) (w : Nat) : Rg := ⟨loK l w l.length, hiK l w l.length⟩
def kindE (k : Int) : Int := if inM k 1 2 then 0 else 8
def weatherE (s : Season) (k : Int) : Int := knownM s [kindE k]
def weatherL (s : Season) (k : Int) : List Rg := if weatherE s k = 0 then (List.range s.heats.length).map (weekR (skM s k)) else []
theorem kindE_zero {k : Int} (h : kindE k = 0) : k = 1 ∨ k = 2 := by
  unfold kindE at h
  split at h
  · rename_i hk; unfold inM at hk; simp at hk; omega
  · cases h
theorem may_pos {s : Season} (h : mayM s = true) {k : Int} (hk : k = 1 ∨ k = 2) : 0 < (skM s k).length := by
  unfold mayM at h
  rw [Bool.and_eq_true, decide_eq_true_eq, decide_eq_true_eq] at h
  rcases hk with rfl | rfl
  · exact h.1
  · exact h.2
/-- How many joints have surely failed, and how many may be sound, as the first n say. -/
def mustN (f : Fate) (w : Nat) : Nat → Nat
  | 0 => 0
  | i + 1 => mustN f w i + if uptoM (f.at i) w = 0 then 1 else 0
def canN (f : Fate) (w : Nat) : Nat → Nat
  | 0 => 0
  | i + 1 => canN f w i + if f.at i ≠ uptoM (f.at i) w then 1 else 0
def soundLo (s : Season) (w : Nat) (l : List Fate) : Nat := l.foldl (fun m f => min m (mustN f w s.joints.length)) s.joints.length
def soundHi (s : Season) (w : Nat) (l : List Fate) : Nat := l.foldl (fun m f => max m (canN f w s.joints.length)) 0
theorem foldl_min {α : Type} (g : α → Nat) : ∀ (l : List α) (m z : Nat), z ≤ l.foldl (fun m f => min m (g f)) m ↔ z ≤ m ∧ ∀ f ∈ l, z ≤ g f
  | [], m, z => by simp
  | f :: l, m, z => by
    rw [List.foldl_cons, foldl_min g l]
    simp only [List.mem_cons, forall_eq_or_imp]
    constructor
    · rintro ⟨h1, h2⟩; exact ⟨by omega, by omega, h2⟩
    · rintro ⟨h1, h2, h3⟩; exact ⟨by omega, h3⟩
theorem foldl_max {α : Type} (g : α → Nat) : ∀ (l : List α) (m z : Nat), l.foldl (fun m f => max m (g f)) m ≤ z ↔ m ≤ z ∧ ∀ f ∈ l, g f ≤ z
  | [], m, z => by simp
  | f :: l, m, z => by
    rw [List.foldl_cons, foldl_max g l]
    simp only [List.mem_cons, forall_eq_or_imp]
    constructor
    · rintro ⟨h1, h2⟩; exact ⟨by omega, by omega, h2⟩
    · rintro ⟨h1, h2, h3⟩; exact ⟨by omega, h3⟩
/-- The order of the fates does not matter. -/
theorem soundLo_same {s : Season} {w : Nat} {l l' : List Fate} (h : ∀ f, f ∈ l ↔ f ∈ l') : soundLo s w l = soundLo s w l' := by
  refine Nat.le_antisymm ?_ ?_
  · exact (foldl_min _ _ _ _).2 (by have := (foldl_min (fun f => mustN f w s.joints.length) l s.joints.length (soundLo s w l)).1 (Nat.le_refl _); exact ⟨this.1, fun f hf => this.2 f ((h f).2 hf)⟩)
  · exact (foldl_min _ _ _ _).2 (by have := (foldl_min (fun f => mustN f w s.joints.length) l' s.joints.length (soundLo s w l')).1 (Nat.le_refl _); exact ⟨this.1, fun f hf => this.2 f ((h f).1 hf)⟩)
theorem soundHi_same {s : Season} {w : Nat} {l l' : List Fate} (h : ∀ f, f ∈ l ↔ f ∈ l') : soundHi s w l = soundHi s w l' := by
  refine Nat.le_antisymm ?_ ?_
  · exact (foldl_max _ _ _ _).2 (by have := (foldl_max (fun f => canN f w s.joints.length) l' 0 (soundHi s w l')).1 (Nat.le_refl _); exact ⟨this.1, fun f hf => this.2 f ((h f).1 hf)⟩)
  · exact (foldl_max _ _ _ _).2 (by have := (foldl_max (fun f => canN f w s.joints.length) l 0 (soundHi s w l)).1 (Nat.le_refl _); exact ⟨this.1, fun f hf => this.2 f ((h f).2 hf)⟩)
def soundE (s : Season) (w : Int) : Int := knownM s [isWeekM s w]
def soundV (s : Season) (w : Int) : Rg := if soundE s w = 0 then ⟨soundLo s w.toNat (allFates s), soundHi s w.toNat (allFates s)⟩ else ⟨0, 0⟩
theorem mustN_le (f : Fate) (w : Nat) : ∀ n, mustN f w n ≤ n
  | 0 => Nat.le_refl _
  | n + 1 => by have := mustN_le f w n; rw [mustN]; split <;> omega
theorem canN_le (f : Fate) (w : Nat) : ∀ n, canN f w n ≤ n
  | 0 => Nat.le_refl _
  | n + 1 => by have := canN_le f w n; rw [canN]; split <;> omega
end Go.Wx
/- Walks: the weather that there can be. Conditions: as each theorem states. -/
namespace Go.Proofs.Ytndfkbapoinmkaa
open Go Go.HL Go.Proofs Go.Wx
set_option maxRecDepth 100000
theorem weather1_ask (w : Int) (b1 : Nat) (h : AH) (e1 : h b1 = some (.cells #[.int .i64 w] 3 (0, 0))) :
    AskT (.func (.func 113) #[] #[.pointer (some ⟨b1, 0, none⟩)]) h (kindE w) := by
  intro h' E _
  refine callV_fn (caps := [.pointer (some ⟨b1, 0, none⟩)]) rfl ?_
  refine call_body Try.func113 rfl Try.ntmps113 rfl ?_
  refine xp_seq ?_
  refine xp_region rfl ?_
  refine op_pure (pv_assign (v := .int .i64 _) rfl) ?_
  refine xp_seq ?_
  refine xp_seq ?_
  refine xp_region rfl ?_
  refine op_load (v := .int .i64 _) rfl rfl (by simp only [cellA, E _ _ e1]; rfl) ?_
  refine op_fn (caps := []) (vs := [.int .i64 _, .int .i64 _, .int .i64 _]) rfl rfl rfl (in_ok _ _ _ h') ?_
  rintro _ h3 E3 rfl
  refine op_pure (pv_of (v := .bool _) rfl) ?_
  refine xp_cond rfl (fun ht => ?_) (fun ht => ?_)
  · skip
    have hb := inM_not ht
    refine xp_seq ?_
    refine xp_region rfl ?_
    refine op_pure (pv_assign (v := .int .i64 _) rfl) ?_
    refine xp_ret ?_
    refine res_list (vs := [_]) Try.results113 ⟨resV_tmp rfl rfl, trivial⟩ fun V => ?_
    refine ⟨(Ext.trans E3 (ext_wl V)), intE ?_⟩
    unfold kindE
    rw [hb]; rfl
  · skip
    have hb := inM_yes ht
    refine xp_skip ?_
    refine xp_seq ?_
    refine xp_region rfl ?_
    refine op_pure (pv_assign (v := .int .i64 _) rfl) ?_
    refine xp_ret ?_
    refine res_list (vs := [_]) Try.results113 ⟨resV_tmp rfl rfl, trivial⟩ fun V => ?_
    refine ⟨(Ext.trans E3 (ext_wl V)), intE ?_⟩
    unfold kindE
    rw [hb]; rfl
set_option maxHeartbeats 4000000 in
theorem Weather_ok (s : Season) (Sm : Small s) (kd : Int) (A0 A1 A2 A3 : Option Addr) (c0 c1 c2 c3 : Nat) (h : AH) (R : SeasonR h A0 A1 A2 A3 s) :
    FnT Try.prog 48 #[seasonV A0 A1 A2 A3 c0 c1 c2 c3 s, .int .i64 kd] h (fun v h' => ∃ u, v = .tuple #[u, .int .i64 (weatherE s kd)] ∧ SlR h' 2 rgC (weatherL s kd) u) := by
  by_cases he : weatherE s kd = 0
  · have hk := knownM_zero he
    have SV := checkM_zero hk.1
    have hw6 := SV.b.w6
    have hkd : kd = 1 ∨ kd = 2 := kindE_zero (firstErr_zero (f := id) hk.2.1 (kindE kd) (by simp))
    have hpos := may_pos hk.2.2 hkd
    have hsk : (skM s kd).length ≤ 729 := skK_len SV.b kd (allSkies s kd).length
    refine call_body Try.func48 rfl Try.ntmps48 rfl ?_
    refine xp_seq ?_
    refine xp_region rfl ?_
    refine op_box (v := .agg #[.slice _ _ _, .slice _ _ _, .slice _ _ _, .slice _ _ _]) (cs := [_, _, _, _]) rfl rfl fun b2 hb2 => ?_
    refine wp_norm [_] rfl ?_
    refine op_box (v := .int .i64 _) (cs := [_]) rfl rfl fun b3 hb3 => ?_
    refine wp_norm [_, _] rfl ?_
    refine op_pure (pv_assign (v := .slice _ _ _) rfl) ?_
    refine op_pure (pv_assign (v := .int .i64 _) rfl) ?_
    refine goes_pub 1 rfl ?_
    intro h1 E1 p1
    refine goes_more ?_
    refine goes_norm [_, _, _] rfl ?_
    refine xp_seq ?_
    refine xp_region rfl ?_
    refine op_loadPA 0 (vs := [.slice _ _ _, .slice _ _ _, .slice _ _ _, .slice _ _ _]) rfl rfl rfl rfl rfl ?_
    refine op_pure (pv_makeFunc (vs := []) (ws := [_]) rfl rfl) ?_
    refine op_buildSlice (zc := [_]) (vs := [(0, _)]) (cs := [_]) rfl rfl rfl rfl rfl rfl rfl fun b17 hb17 => ?_
    refine wp_norm [_, _, _, _] rfl ?_
    refine wp_pub 3 rfl rfl ?_
    intro h2 E2 p17
    refine wp_norm [_, _, _, _] rfl ?_
    refine op_fn (caps := []) (vs := [.agg #[.slice _ _ _, .slice _ _ _, .slice _ _ _, .slice _ _ _], .slice _ _ _]) rfl rfl rfl (known_yes s A0 A1 A2 A3 c0 c1 c2 c3 h2 (R.ext (Ext.trans E1 E2)) Sm.h0 Sm.h1 Sm.h2 Sm.h3 [_] [_] _ _ (rowFn p17) rfl (by simp) (ask1 ((weather1_ask kd b3 _ p1).ext E2)) he) ?_
    rintro _ h3 E3 ⟨A, c, mf, fm, fl, A', c', mf', fm', fl', rfl, X, X'⟩
    refine op_pure (pv_move (v := .tuple #[.agg #[.slice _ _ _, .map _, .map _, .map _, .map _, .slice _ _ _, .map _, .map _, .map _, .map _], .int .i64 _]) rfl) ?_
    refine op_pure (pv_of (v := .agg #[.slice _ _ _, .map _, .map _, .map _, .map _, .slice _ _ _, .map _, .map _, .map _, .map _]) rfl) ?_
    refine op_pure (pv_of (v := .int .i64 _) rfl) ?_
    refine op_alloc (cs := [_, _, _, _, _, _, _, _, _, _]) rfl rfl fun b6 hb6 => ?_
    refine wp_norm [_, _, _, _, _] rfl ?_
    refine op_storeP 4 (v := .agg #[.slice _ _ _, .map _, .map _, .map _, .map _, .slice _ _ _, .map _, .map _, .map _, .map _]) (vs := [_, _, _, _, _, _, _, _, _, _]) (c' := [_, _, _, _, _, _, _, _, _, _]) rfl rfl rfl rfl rfl rfl rfl rfl rfl ?_
    refine wp_norm [_, _, _, _, _] rfl ?_
    refine op_pure (pv_assign (v := .int .i64 _) rfl) ?_
    refine xp_seq ?_
    refine xp_seq ?_
    refine xp_region rfl ?_
    refine op_pure (pv_move (v := .int .i64 _) rfl) ?_
    refine op_pure (pv_of (v := .bool _) rfl) ?_
    refine xp_condF rfl (by decide) ?_
    refine xp_skip ?_
    refine xp_seq ?_
    refine xp_region rfl ?_
    refine op_loadPA 4 (vs := [.slice _ _ _, .map _, .map _, .map _, .map _, .slice _ _ _, .map _, .map _, .map _, .map _]) rfl rfl rfl rfl rfl ?_
    refine op_load (v := .int .i64 _) rfl rfl (by simp only [cellA, (Ext.trans E2 E3) _ _ p1]; rfl) ?_
    refine op_fn (caps := []) (vs := [.agg #[.slice _ _ _, .map _, .map _, .map _, .map _, .slice _ _ _, .map _, .map _, .map _, .map _], .int .i64 _]) rfl rfl rfl (of2_ok s kd hkd A c mf fm fl A' c' mf' fm' fl' h3 (X.ext (Ext.refl _)) (X'.ext (Ext.refl _))) ?_
    rintro _ h4 E4 ⟨AK, cK, mK, fmK, flK, rfl, XK⟩
    refine op_pure (pv_of (v := .slice _ _ _) rfl) ?_
    refine op_pure (pv_assign (v := .slice _ _ _) rfl) ?_
    refine xp_seq ?_
    refine xp_region rfl ?_
    refine op_pure (pv_assign (v := .slice _ _ _) rfl) ?_
    refine xp_seq ?_
    refine xp_seq ?_
    refine xp_region rfl ?_
    refine op_pure (pv_fieldAddr rfl rfl rfl rfl 0 rfl) ?_
    refine op_loadP 0 (v := .slice _ _ _) rfl rfl rfl rfl ?_
    refine op_pure (pv_len rfl rfl) ?_
    refine op_pure (pv_move (v := .int .i64 _) rfl) ?_
    refine xp_block ?_
    refine xp_loopL [9, 10, 11, 13, 31, 32, 33, 34, 35, 36, 37, 38, 39, 40, 41, 42, 43, 44, 45, 46, 47, 48, 49, 50, 51, 52, 53, 54, 55, 56, 57, 58, 59, 60, 61, 62, 63, 64, 65, 66, 67, 68, 69] 5 (α := Nat × Acc) (fun ⟨w, a⟩ => [(31, .int .i64 w), (9, .slice a.A a.n a.c)]) (fun ⟨w, a⟩ L => L.set 2 (a.p)) (fun ⟨w, a⟩ h_w => w ≤ s.heats.length ∧ AccR 51 2 (((List.range w).map (weekR (skM s kd))).flatMap rgC) a) (fun ⟨w, a⟩ => s.heats.length - w) ((0, acc0)) ⟨rfl, rfl, trivial⟩ (rfl) (⟨Nat.zero_le _, accR0⟩) ?_
    rintro ⟨w, a⟩ T1 h_w E_w J_w
    refine goes_norm [_, _, _, _, _] rfl ?_
    obtain ⟨K1, K2⟩ := J_w
    refine xp_seq ?_
    refine xp_region rfl ?_
    refine op_pure (pv_of (v := .bool _) rfl) ?_
    refine xp_seq ?_
    refine xp_cond rfl (fun hw => ?_) (fun hw => ?_)
    · skip
      have hwl : w < s.heats.length := ltI hw
      obtain ⟨g, off, hA, hc0⟩ := (XK.sk.ext E_w).at (by omega) hpos
      have hw6' : w < 6 := by omega
      have hhd : (skM s kd).headD sky0 = (skM s kd)[0] := by simp [List.headD_eq_head?_getD, List.head?_eq_getElem?, List.getElem?_eq_getElem hpos]
      have hcw := hc0 w _ (skyC_at _ w hw6')
      refine xp_skip ?_
      refine xp_seq ?_
      refine xp_block ?_
      refine xp_seq ?_
      refine xp_region rfl ?_
      refine op_pure (pv_move (v := .int .i64 _) rfl) ?_
      refine op_pure (pv_assign (v := .int .i64 _) rfl) ?_
      refine xp_seq ?_
      refine xp_dw [] rfl rfl rfl ?_
      refine dw_pure (i := 0) rfl (by decide +kernel) (pv_move (v := .slice _ _ _) rfl) ?_
      refine dw_pure (i := 1) rfl (by decide +kernel) (pv_move (v := .int .i64 _) rfl) ?_
      refine dw_pure (i := 2) rfl (by decide +kernel) (pv_indexE rfl hA rfl rfl rfl (by omega) (by omega)) ?_
      refine dw_pure (i := 3) rfl (by decide +kernel) (pv_indexA (m := 1) rfl rfl rfl rfl (by omega) (by omega)) ?_
      refine dw_load (i := 4) rfl (by decide +kernel) ?_
      refine op_load (v := .int .i64 ((skM s kd)[0].at w)) rfl rfl (by simpa using hcw) ?_
      refine dw_pure (i := 5) rfl (by decide +kernel) (pv_move (v := .slice _ _ _) rfl) ?_
      refine dw_pure (i := 6) rfl (by decide +kernel) (pv_move (v := .int .i64 _) rfl) ?_
      refine dw_pure (i := 7) rfl (by decide +kernel) (pv_indexE rfl hA rfl rfl rfl (by omega) (by omega)) ?_
      refine dw_pure (i := 8) rfl (by decide +kernel) (pv_indexA (m := 1) rfl rfl rfl rfl (by omega) (by omega)) ?_
      refine dw_load (i := 9) rfl (by decide +kernel) ?_
      refine op_load (v := .int .i64 ((skM s kd)[0].at w)) rfl rfl (by simpa using hcw) ?_
      refine dw_pure (i := 10) rfl (by decide +kernel) (pv_build (zc := [_, _]) (vs := [(0, .int .i64 _), (1, .int .i64 _)]) (cs := [_, _]) rfl rfl rfl rfl rfl rfl) ?_
      refine dw_eff (i := 11) rfl (by decide +kernel) ?_
      refine op_alloc (cs := [_, _]) rfl rfl fun b11 hb11 => ?_
      refine ⟨ext_new hb11 _, ?_⟩
      refine dw_norm [_, _, _, _, _, _] rfl ?_
      refine dw_last (i := 12) rfl (by decide +kernel) (by decide +kernel) ?_
      refine op_storeP 5 (v := .agg #[.int .i64 _, .int .i64 _]) (vs := [_, _]) (c' := [_, _]) rfl rfl rfl rfl rfl rfl rfl rfl rfl ?_
      refine dw_norm [_, _, _, _, _, _] rfl ?_
      refine dw_end rfl ?_
      refine xp_seq ?_
      refine xp_seq ?_
      refine xp_region rfl ?_
      refine op_pure (pv_move (v := .slice _ _ _) rfl) ?_
      refine op_pure (pv_len rfl rfl) ?_
      refine op_pure (pv_move (v := .int .i64 _) rfl) ?_
      refine xp_block ?_
      refine xp_loopL [13, 47, 48, 49, 50, 51, 52, 53, 54, 55, 56, 57, 58, 59, 60, 61, 62, 63, 64] 6 (α := Nat) (fun k => [(47, .int .i64 k)]) (fun k L => L.set 5 (some (b11, .cells #[.int .i64 (loK (skM s kd) w k), .int .i64 (hiK (skM s kd) w k)] 51 (0, 0)))) (fun k h_k => k ≤ (skM s kd).length) (fun k => (skM s kd).length - k) (0) ⟨rfl, trivial⟩ (by rw [loK, hiK, hhd]; rfl) (Nat.zero_le _) ?_
      rintro k T2 h_k E_k J_k
      refine goes_norm [_, _, _, _, _, _] rfl ?_
      refine xp_seq ?_
      refine xp_region rfl ?_
      refine op_pure (pv_of (v := .bool _) rfl) ?_
      refine xp_seq ?_
      refine xp_cond rfl (fun hk2 => ?_) (fun hk2 => ?_)
      · skip
        have hkl : k < (skM s kd).length := ltI hk2
        obtain ⟨g2, off2, hA2, hck⟩ := (XK.sk.ext (Ext.trans E_w E_k)).at (by omega) hkl
        refine xp_skip ?_
        refine xp_seq ?_
        refine xp_block ?_
        refine xp_seq ?_
        refine xp_region rfl ?_
        refine op_pure (pv_indexE rfl hA2 rfl rfl rfl (by omega) (by omega)) ?_
        refine op_loadA rfl rfl rfl rfl (hck) ?_
        refine op_alloc (cs := [_, _, _, _, _, _]) rfl rfl fun b13 hb13 => ?_
        refine wp_norm [_, _, _, _, _, _, _] rfl ?_
        refine op_storeP 6 (v := .agg #[.int .i64 _, .int .i64 _, .int .i64 _, .int .i64 _, .int .i64 _, .int .i64 _]) (vs := [_, _, _, _, _, _]) (c' := [_, _, _, _, _, _]) rfl rfl rfl rfl rfl rfl rfl rfl rfl ?_
        refine wp_norm [_, _, _, _, _, _, _] rfl ?_
        refine xp_dw [] rfl rfl rfl ?_
        refine dw_pure (i := 0) rfl (by decide +kernel) (pv_fieldAddr rfl rfl rfl rfl 0 rfl) ?_
        refine dw_load (i := 1) rfl (by decide +kernel) ?_
        refine op_loadP 5 (v := .int .i64 _) rfl rfl rfl rfl ?_
        refine dw_pure (i := 2) rfl (by decide +kernel) (pv_move (v := .int .i64 _) rfl) ?_
        refine dw_pure (i := 3) rfl (by decide +kernel) (pv_indexA rfl rfl rfl rfl (by omega) (by omega)) ?_
        refine dw_load (i := 4) rfl (by decide +kernel) ?_
        refine op_loadP 6 (v := .int .i64 ((skM s kd)[k].at w)) rfl rfl rfl (skyArr (skM s kd)[k] w hw6') ?_
        refine dw_pure (i := 5) rfl (by decide +kernel) (pv_min rfl rfl) ?_
        refine dw_pure (i := 6) rfl (by decide +kernel) (pv_fieldAddr rfl rfl rfl rfl 1 rfl) ?_
        refine dw_load (i := 7) rfl (by decide +kernel) ?_
        refine op_loadP 5 (v := .int .i64 _) rfl rfl rfl rfl ?_
        refine dw_pure (i := 8) rfl (by decide +kernel) (pv_move (v := .int .i64 _) rfl) ?_
        refine dw_pure (i := 9) rfl (by decide +kernel) (pv_indexA rfl rfl rfl rfl (by omega) (by omega)) ?_
        refine dw_load (i := 10) rfl (by decide +kernel) ?_
        refine op_loadP 6 (v := .int .i64 ((skM s kd)[k].at w)) rfl rfl rfl (skyArr (skM s kd)[k] w hw6') ?_
        refine dw_pure (i := 11) rfl (by decide +kernel) (pv_max rfl rfl) ?_
        refine dw_pure (i := 12) rfl (by decide +kernel) (pv_build (zc := [_, _]) (vs := [(0, .int .i64 _), (1, .int .i64 _)]) (cs := [_, _]) rfl rfl rfl rfl rfl rfl) ?_
        refine dw_last (i := 13) rfl (by decide +kernel) (by decide +kernel) ?_
        refine op_storeP 5 (v := .agg #[.int .i64 _, .int .i64 _]) (vs := [_, _]) (c' := [_, _]) rfl rfl rfl rfl rfl rfl rfl rfl rfl ?_
        refine dw_norm [_, _, _, _, _, _, _] rfl ?_
        refine dw_end rfl ?_
        refine xp_region rfl ?_
        refine op_pure (pv_arith rfl (by omega)) ?_
        refine op_pure (pv_move (v := .int .i64 _) rfl) ?_
        refine ⟨k + 1, ⟨rfl, trivial⟩, rfl, by rw [loK_succ hkl, hiK_succ hkl]; rfl, E_k, fun h3 E3 => hkl, by first | omega | (dsimp only; omega), ?_⟩
        repeat (first | exact off_base _ _ _ | refine off_upd (by decide) ?_ | refine off_updL rfl ?_ | refine off_mix rfl ?_)
      · skip
        have hke : k = (skM s kd).length := by have := geI hk2; omega
        subst hke
        refine xp_exit ?_
        refine xp_region rfl ?_
        refine op_pure (pv_move (v := .slice _ _ _) rfl) ?_
        refine op_loadPA 5 (vs := [.int .i64 _, .int .i64 _]) rfl rfl rfl rfl rfl ?_
        refine op_buildSlice (zc := [_, _]) (vs := [(0, .agg #[.int .i64 _, .int .i64 _])]) (cs := [_, _]) rfl rfl rfl rfl rfl rfl rfl fun b67 hb67 => ?_
        refine wp_norm [_, _, _, _, _, _, _] rfl ?_
        refine op_appendR 2 K2 rfl rfl rfl (fun V => rdP V (i := 6) rfl) rfl rfl rfl rfl rfl rfl rfl rfl rfl (by omega) rfl (by rw [flat_len (m := 2) (fun _ _ => rfl)]; simp; omega) fun a2 h3a E3a ha2 => ?_
        refine wp_norm [_, _, _, _, _, _, _] rfl ?_
        refine op_pure (pv_assign (v := .slice _ _ _) rfl) ?_
        refine xp_region rfl ?_
        refine op_pure (pv_arith rfl (by omega)) ?_
        refine op_pure (pv_move (v := .int .i64 _) rfl) ?_
        refine ⟨(w + 1, a2), ⟨rfl, rfl, trivial⟩, rfl, rfl, (Ext.trans (Ext.trans E_w E_k) E3a), fun h3 E3 => ⟨hwl, by rw [List.range_succ, List.map_append, List.flatMap_append]; exact ha2⟩, by first | omega | (dsimp only; omega), ?_⟩
        repeat (first | exact off_base _ _ _ | refine off_upd (by decide) ?_ | refine off_updL rfl ?_ | refine off_mix rfl ?_)
    · skip
      have hwe : w = s.heats.length := by have := geI hw; omega
      subst hwe
      refine xp_exit ?_
      refine xp_seq ?_
      refine xp_region rfl ?_
      refine op_pure (pv_move (v := .slice _ _ _) rfl) ?_
      refine op_pure (pv_assign (v := .slice _ _ _) rfl) ?_
      refine op_pure (pv_assign (v := .int .i64 _) rfl) ?_
      refine xp_ret ?_
      refine res_list (vs := [_, _]) Try.results48 ⟨resV_tmp rfl rfl, resV_tmp rfl rfl, trivial⟩ fun V => ?_
      refine ⟨(Ext.trans (Ext.trans (Ext.trans (Ext.trans (Ext.trans E1 E2) E3) E4) E_w) (ext_wl V)), _, by rw [he]; rfl, ?_⟩
      rw [weatherL, if_pos he]
      exact AccP.row (i := 2) K2 (by omega) (fun _ _ => rfl) V rfl
  · skip
    refine call_body Try.func48 rfl Try.ntmps48 rfl ?_
    refine xp_seq ?_
    refine xp_region rfl ?_
    refine op_box (v := .agg #[.slice _ _ _, .slice _ _ _, .slice _ _ _, .slice _ _ _]) (cs := [_, _, _, _]) rfl rfl fun b2 hb2 => ?_
    refine wp_norm [_] rfl ?_
    refine op_box (v := .int .i64 _) (cs := [_]) rfl rfl fun b3 hb3 => ?_
    refine wp_norm [_, _] rfl ?_
    refine op_pure (pv_assign (v := .slice _ _ _) rfl) ?_
    refine op_pure (pv_assign (v := .int .i64 _) rfl) ?_
    refine goes_pub 1 rfl ?_
    intro h1 E1 p1
    refine xp_seq ?_
    refine xp_region rfl ?_
    refine op_loadPA 0 (vs := [.slice _ _ _, .slice _ _ _, .slice _ _ _, .slice _ _ _]) rfl rfl rfl rfl rfl ?_
    refine op_pure (pv_makeFunc (vs := []) (ws := [_]) rfl rfl) ?_
    refine op_buildSlice (zc := [_]) (vs := [(0, _)]) (cs := [_]) rfl rfl rfl rfl rfl rfl rfl fun b17 hb17 => ?_
    refine wp_norm [_, _, _] rfl ?_
    refine wp_pub 2 rfl rfl ?_
    intro h2 E2 p17
    refine wp_norm [_, _, _] rfl ?_
    refine op_fn (caps := []) (vs := [.agg #[.slice _ _ _, .slice _ _ _, .slice _ _ _, .slice _ _ _], .slice _ _ _]) rfl rfl rfl (known_no s A0 A1 A2 A3 c0 c1 c2 c3 h2 (R.ext (Ext.trans E1 E2)) Sm.h0 Sm.h1 Sm.h2 Sm.h3 [_] [_] _ _ (rowFn p17) rfl (by simp) (ask1 ((weather1_ask kd b3 _ p1).ext E2)) he) ?_
    rintro _ h3 E3 rfl
    refine op_pure (pv_move (v := .tuple #[.agg #[.slice _ _ _, .map _, .map _, .map _, .map _, .slice _ _ _, .map _, .map _, .map _, .map _], .int .i64 _]) rfl) ?_
    refine op_pure (pv_of (v := .agg #[.slice _ _ _, .map _, .map _, .map _, .map _, .slice _ _ _, .map _, .map _, .map _, .map _]) rfl) ?_
    refine op_pure (pv_of (v := .int .i64 _) rfl) ?_
    refine op_alloc (cs := [_, _, _, _, _, _, _, _, _, _]) rfl rfl fun b6 hb6 => ?_
    refine wp_norm [_, _, _, _] rfl ?_
    refine op_storeP 3 (v := .agg #[.slice _ _ _, .map _, .map _, .map _, .map _, .slice _ _ _, .map _, .map _, .map _, .map _]) (vs := [_, _, _, _, _, _, _, _, _, _]) (c' := [_, _, _, _, _, _, _, _, _, _]) rfl rfl rfl rfl rfl rfl rfl rfl rfl ?_
    refine wp_norm [_, _, _, _] rfl ?_
    refine op_pure (pv_assign (v := .int .i64 _) rfl) ?_
    refine xp_seq ?_
    refine xp_seq ?_
    refine xp_region rfl ?_
    refine op_pure (pv_move (v := .int .i64 _) rfl) ?_
    refine op_pure (pv_of (v := .bool _) rfl) ?_
    refine xp_condT rfl (by simpa [weatherE] using he) ?_
    refine xp_seq ?_
    refine xp_region rfl ?_
    refine op_pure (pv_move (v := .int .i64 _) rfl) ?_
    refine op_pure (pv_assign (v := .slice _ _ _) rfl) ?_
    refine op_pure (pv_assign (v := .int .i64 _) rfl) ?_
    refine xp_ret ?_
    refine res_list (vs := [_, _]) Try.results48 ⟨resV_tmp rfl rfl, resV_tmp rfl rfl, trivial⟩ fun V => ?_
    refine ⟨(Ext.trans (Ext.trans (Ext.trans E1 E2) E3) (ext_wl V)), _, rfl, none, 0, ?_, ?_⟩
    · rw [weatherL, if_neg he]; rfl
    · rw [weatherL, if_neg he]; exact ⟨fun _ h => (by cases h), Rd.nil _ _⟩
end Go.Proofs.Ytndfkbapoinmkaa
/- Walks: how many joints are sound. Conditions: as each theorem states. -/
namespace Go.Proofs.Ytndfkbapoinmkaa
open Go Go.HL Go.Proofs Go.Wx
set_option maxRecDepth 100000
/-- What holds between the rounds. -/
def SoundI (s : Season) (w : Nat) (pre : Pv) (b8 l : Nat) (r : Loop) (h0 : AH) (done : List Fate) (h : AH) (M : Pv) : Prop :=
  Ext h0 h ∧ M = pre ++ [some (b8, .cells #[.int .i64 (soundLo s w done : Nat), .int .i64 (soundHi s w done : Nat)] 51 (0, 0)), some (l, obL r .ready none)]
theorem minN (a b : Nat) : ((min a b : Nat) : Int) = min (a : Int) (b : Int) := by omega
theorem maxN (a b : Nat) : ((max a b : Nat) : Int) = max (a : Int) (b : Int) := by omega
set_option maxHeartbeats 4000000 in
theorem Sound_ok (s : Season) (Sm : Small s) (week : Int) (A0 A1 A2 A3 : Option Addr) (c0 c1 c2 c3 : Nat) (h : AH) (R : SeasonR h A0 A1 A2 A3 s) :
    FnT Try.prog 45 #[seasonV A0 A1 A2 A3 c0 c1 c2 c3 s, .int .i64 week] h (fun v h' => v = .tuple #[rgV (soundV s week), .int .i64 (soundE s week)]) := by
  by_cases he : soundE s week = 0
  · have hk := knownM_zero he
    have SV := checkM_zero hk.1
    have hw6 := SV.b.w6
    have hj3 := SV.b.j3
    obtain ⟨w, rfl, hw⟩ := isWeekM_zero (s := s) (w := week) (firstErr_zero (f := id) hk.2.1 (isWeekM s week) (by simp))
    refine call_body Try.func45 rfl Try.ntmps45 rfl ?_
    refine xp_seq ?_
    refine xp_region rfl ?_
    refine op_box (v := .agg #[.slice _ _ _, .slice _ _ _, .slice _ _ _, .slice _ _ _]) (cs := [_, _, _, _]) rfl rfl fun b2 hb2 => ?_
    refine wp_norm [_] rfl ?_
    refine op_box (v := .int .i64 _) (cs := [_]) rfl rfl fun b3 hb3 => ?_
    refine wp_norm [_, _] rfl ?_
    refine op_alloc (cs := [_, _]) rfl rfl fun b4 hb4 => ?_
    refine wp_norm [_, _, _] rfl ?_
    refine op_pure (pv_assign (v := .int .i64 _) rfl) ?_
    refine xp_seq ?_
    refine xp_dw [] rfl rfl rfl ?_
    refine dw_load (i := 0) rfl (by decide +kernel) ?_
    refine op_loadPA 0 (vs := [.slice _ _ _, .slice _ _ _, .slice _ _ _, .slice _ _ _]) rfl rfl rfl rfl rfl ?_
    refine dw_load (i := 1) rfl (by decide +kernel) ?_
    refine op_loadPA 0 (vs := [.slice _ _ _, .slice _ _ _, .slice _ _ _, .slice _ _ _]) rfl rfl rfl rfl rfl ?_
    refine dw_load (i := 2) rfl (by decide +kernel) ?_
    refine op_loadP 1 (v := .int .i64 _) rfl rfl rfl rfl ?_
    refine dw_eff (i := 3) rfl (by decide +kernel) ?_
    refine op_fn (caps := []) (vs := [.agg #[.slice _ _ _, .slice _ _ _, .slice _ _ _, .slice _ _ _], .int .i64 _]) rfl rfl rfl (isWeek_ok s w A0 A1 A2 A3 c0 c1 c2 c3 Sm.h0 h) ?_
    rintro _ h1 E1 ⟨fn, caps, rfl, ak⟩
    refine ⟨ext_wlm E1 _, ?_⟩
    refine dw_eff (i := 4) rfl (by decide +kernel) ?_
    refine op_buildSlice (zc := [_]) (vs := [(0, _)]) (cs := [_]) rfl rfl rfl rfl rfl rfl rfl fun b18 hb18 => ?_
    refine ⟨ext_new hb18 _, ?_⟩
    refine dw_norm [_, _, _, _] rfl ?_
    refine dw_pub 3 rfl ?_
    intro h2 E2 p18
    refine dw_norm [_, _, _, _] rfl ?_
    refine dw_last (i := 5) rfl (by decide +kernel) (by decide +kernel) ?_
    refine op_fn (caps := []) (vs := [.agg #[.slice _ _ _, .slice _ _ _, .slice _ _ _, .slice _ _ _], .slice _ _ _]) rfl rfl rfl (known_yes s A0 A1 A2 A3 c0 c1 c2 c3 h2 (R.ext (Ext.trans E1 E2)) Sm.h0 Sm.h1 Sm.h2 Sm.h3 [_] [_] _ _ (rowFn p18) rfl (by simp) (ask1 (ak.ext E2)) he) ?_
    rintro _ h3 E3 ⟨A, c, mf, fm, fl, A', c', mf', fm', fl', rfl, X, X'⟩
    refine dw_pure (i := 6) rfl (by decide +kernel) (pv_move (v := .tuple #[.agg #[.slice _ _ _, .map _, .map _, .map _, .map _, .slice _ _ _, .map _, .map _, .map _, .map _], .int .i64 _]) rfl) ?_
    refine dw_pure (i := 7) rfl (by decide +kernel) (pv_of (v := .agg #[.slice _ _ _, .map _, .map _, .map _, .map _, .slice _ _ _, .map _, .map _, .map _, .map _]) rfl) ?_
    refine dw_pure (i := 8) rfl (by decide +kernel) (pv_of (v := .int .i64 _) rfl) ?_
    refine dw_eff (i := 9) rfl (by decide +kernel) ?_
    refine op_alloc (cs := [_, _, _, _, _, _, _, _, _, _]) rfl rfl fun b6 hb6 => ?_
    refine ⟨ext_new hb6 _, ?_⟩
    refine dw_norm [_, _, _, _, _] rfl ?_
    refine dw_last (i := 10) rfl (by decide +kernel) (by decide +kernel) ?_
    refine op_storeP 4 (v := .agg #[.slice _ _ _, .map _, .map _, .map _, .map _, .slice _ _ _, .map _, .map _, .map _, .map _]) (vs := [_, _, _, _, _, _, _, _, _, _]) (c' := [_, _, _, _, _, _, _, _, _, _]) rfl rfl rfl rfl rfl rfl rfl rfl rfl ?_
    refine dw_norm [_, _, _, _, _] rfl ?_
    refine dw_pure (i := 11) rfl (by decide +kernel) (pv_assign (v := .int .i64 _) rfl) ?_
    refine dw_end rfl ?_
    refine xp_seq ?_
    refine xp_seq ?_
    refine xp_region rfl ?_
    refine op_pure (pv_move (v := .int .i64 _) rfl) ?_
    refine op_pure (pv_of (v := .bool _) rfl) ?_
    refine xp_condF rfl (by decide) ?_
    refine xp_skip ?_
    refine xp_seq ?_
    refine xp_region rfl ?_
    refine op_pure (pv_fieldAddr rfl rfl rfl rfl 2 rfl) ?_
    refine op_loadP 0 (v := .slice _ _ _) rfl rfl rfl rfl ?_
    refine op_pure (pv_len rfl rfl) ?_
    refine op_pure (pv_build (zc := [_, _]) (vs := [(0, .int .i64 _), (1, .int .i64 _)]) (cs := [_, _]) rfl rfl rfl rfl rfl rfl) ?_
    refine op_alloc (cs := [_, _]) rfl rfl fun b8 hb8 => ?_
    refine wp_norm [_, _, _, _, _, _] rfl ?_
    refine op_storeP 5 (v := .agg #[.int .i64 _, .int .i64 _]) (vs := [_, _]) (c' := [_, _]) rfl rfl rfl rfl rfl rfl rfl rfl rfl ?_
    refine wp_norm [_, _, _, _, _, _] rfl ?_
    refine xp_seq ?_
    refine xp_seq ?_
    refine xp_region rfl ?_
    refine op_loadPA 4 (vs := [.slice _ _ _, .map _, .map _, .map _, .map _, .slice _ _ _, .map _, .map _, .map _, .map _]) rfl rfl rfl rfl rfl ?_
    refine op_fn (caps := []) (vs := [.agg #[.slice _ _ _, .map _, .map _, .map _, .map _, .slice _ _ _, .map _, .map _, .map _, .map _]]) rfl rfl rfl (fates_ok s SV A c mf fm fl A' c' mf' fm' fl' h3 (X.ext (Ext.refl _)) (X'.ext (Ext.refl _))) ?_
    rintro y h4 E4 It
    refine xp_block ?_
    refine xp_rangeFunc rfl ?_
    intro r l lp htm hpr has hbd V0
    refine CallV.mono (It (.yield l) #[] #[] (SoundI s w [_, _, _, _, _] b8 l lp h4) (fun k h1 h2 M E I => ⟨I.1.trans E, I.2⟩) ?_ h4 _ (Ext.refl _) ⟨Ext.refl _, rfl⟩ V0) ?_ (fun _ _ y => y)
    · intro done f hc M hf I
      obtain ⟨E0, rfl⟩ := I
      have fb := allFates_b hw6 hf
      intro V
      refine callV_yield (wl_get V (i := 6) rfl) hpr rfl htm has hbd ?_
      refine round_enter (i := 6) (r := lp) ?_ V
      refine goes_norm [_, _, _, _, _, _, _] rfl ?_
      refine xp_region rfl ?_
      refine op_alloc (cs := [_, _, _]) rfl rfl fun b9 hb9 => ?_
      refine wp_norm [_, _, _, _, _, _, _, _] rfl ?_
      refine op_storeP 7 (v := .agg #[.int .u64 _, .int .u64 _, .int .u64 _]) (vs := [_, _, _]) (c' := [_, _, _]) rfl rfl rfl rfl rfl rfl rfl rfl rfl ?_
      refine wp_norm [_, _, _, _, _, _, _, _] rfl ?_
      refine ⟨rfl, none, rfl, ?_⟩
      refine goes_norm [_, _, _, _, _, _, _, _] rfl ?_
      refine xp_block ?_
      refine xp_seq ?_
      refine xp_region rfl ?_
      refine op_pure (pv_assign (v := .int .i64 _) rfl) ?_
      refine op_pure (pv_assign (v := .int .i64 _) rfl) ?_
      refine xp_seq ?_
      refine xp_seq ?_
      refine xp_region rfl ?_
      refine op_pure (pv_fieldAddr rfl rfl rfl rfl 2 rfl) ?_
      refine op_loadP 0 (v := .slice _ _ _) rfl rfl rfl rfl ?_
      refine op_pure (pv_len rfl rfl) ?_
      refine op_pure (pv_move (v := .int .i64 _) rfl) ?_
      refine xp_block ?_
      refine xp_loopB [10, 11, 12, 36, 37, 38, 39, 40, 41, 42, 43, 44, 45, 46, 47, 48, 49, 50, 51, 52, 53, 54, 55, 56, 57, 58] 8 (α := Nat) (fun i => [(36, .int .i64 i), (10, .int .i64 (mustN f w i : Nat)), (11, .int .i64 (canN f w i : Nat))]) (fun i => _) (fun i h_i => i ≤ s.joints.length) (fun i => s.joints.length - i) (0) ⟨rfl, rfl, rfl, trivial⟩ (rfl) (Nat.zero_le _) ?_
      rintro i T1 h_i E_i J_i
      refine goes_norm [_, _, _, _, _, _, _, _] rfl ?_
      refine xp_seq ?_
      refine xp_region rfl ?_
      refine op_pure (pv_of (v := .bool _) rfl) ?_
      refine xp_seq ?_
      refine xp_cond rfl (fun hti => ?_) (fun hti => ?_)
      · skip
        have hil := ltI hti
        have hi3 : i < 3 := by omega
        have fbi := fb.at i
        have hm := mustN_le f w i
        have hcn := canN_le f w i
        refine xp_skip ?_
        refine xp_seq ?_
        refine xp_block ?_
        refine xp_seq ?_
        refine xp_region rfl ?_
        refine op_pure (pv_move (v := .int .i64 _) rfl) ?_
        refine op_pure (pv_assign (v := .int .i64 _) rfl) ?_
        refine xp_cutB [10, 39, 40, 41, 42, 43, 44, 45, 46] 8 (α := Unit) (fun u => [(10, .int .i64 (mustN f w (i + 1) : Nat))]) (fun u L => L) (fun u h_u => True) ?_ ?_
        · skip
          refine xp_seq ?_
          refine xp_dw [] rfl rfl rfl ?_
          refine dw_pure (i := 0) rfl (by decide +kernel) (pv_move (v := .int .i64 _) rfl) ?_
          refine dw_pure (i := 1) rfl (by decide +kernel) (pv_indexA rfl rfl rfl rfl (by omega) (by omega)) ?_
          refine dw_load (i := 2) rfl (by decide +kernel) ?_
          refine op_loadP 7 (v := .int .u64 (f.at i : Nat)) rfl rfl rfl (fate_arr f i hi3) ?_
          refine dw_load (i := 3) rfl (by decide +kernel) ?_
          refine op_loadP 1 (v := .int .i64 _) rfl rfl rfl rfl ?_
          refine dw_last (i := 4) rfl (by decide +kernel) (by decide +kernel) ?_
          refine op_fn (caps := []) (vs := [.int .u64 _, .int .i64 _]) rfl rfl rfl (upto_ok (f.at i) w (by omega) (by omega) h_i) ?_
          rintro _ h5 E5 rfl
          refine dw_pure (i := 5) rfl (by decide +kernel) (pv_of (v := .bool _) rfl) ?_
          refine dw_end rfl ?_
          refine xp_cond rfl (fun hu => ?_) (fun hu => ?_)
          · skip
            have hu' : uptoM (f.at i) w = 0 := by simpa using hu
            refine xp_region rfl ?_
            refine op_pure (pv_move (v := .int .i64 _) rfl) ?_
            refine op_pure (pv_arith rfl (by omega)) ?_
            refine op_pure (pv_assign (v := .int .i64 _) rfl) ?_
            refine ⟨(), ⟨intE (by rw [mustN, if_pos hu']; omega), trivial⟩, rfl, rfl, E5, fun h3 E3 => by first | trivial | omega | (refine ⟨?_, ?_⟩ <;> omega), ?_⟩
            repeat (first | exact off_refl _ _ | exact off_base _ _ _ | refine off_upd (by decide) ?_ | refine off_updL rfl ?_ | refine off_mix rfl ?_)
          · skip
            have hu' : ¬ uptoM (f.at i) w = 0 := by simpa using hu
            refine xp_skip ?_
            refine ⟨(), ⟨intE (by rw [mustN, if_neg hu']; omega), trivial⟩, rfl, rfl, E5, fun h3 E3 => by first | trivial | omega | (refine ⟨?_, ?_⟩ <;> omega), ?_⟩
            repeat (first | exact off_refl _ _ | exact off_base _ _ _ | refine off_upd (by decide) ?_ | refine off_updL rfl ?_ | refine off_mix rfl ?_)
        · rintro u T2 h_u E_u J_u
          refine goes_norm [_, _, _, _, _, _, _, _] rfl ?_
          refine xp_seq ?_
          refine xp_dw [] rfl rfl rfl ?_
          refine dw_pure (i := 0) rfl (by decide +kernel) (pv_move (v := .int .i64 _) rfl) ?_
          refine dw_pure (i := 1) rfl (by decide +kernel) (pv_indexA rfl rfl rfl rfl (by omega) (by omega)) ?_
          refine dw_load (i := 2) rfl (by decide +kernel) ?_
          refine op_loadP 7 (v := .int .u64 (f.at i : Nat)) rfl rfl rfl (fate_arr f i hi3) ?_
          refine dw_pure (i := 3) rfl (by decide +kernel) (pv_move (v := .int .i64 _) rfl) ?_
          refine dw_pure (i := 4) rfl (by decide +kernel) (pv_indexA rfl rfl rfl rfl (by omega) (by omega)) ?_
          refine dw_load (i := 5) rfl (by decide +kernel) ?_
          refine op_loadP 7 (v := .int .u64 (f.at i : Nat)) rfl rfl rfl (fate_arr f i hi3) ?_
          refine dw_load (i := 6) rfl (by decide +kernel) ?_
          refine op_loadP 1 (v := .int .i64 _) rfl rfl rfl rfl ?_
          refine dw_eff (i := 7) rfl (by decide +kernel) ?_
          refine op_fn (caps := []) (vs := [.int .u64 _, .int .i64 _]) rfl rfl rfl (upto_ok (f.at i) w (by omega) (by omega) h_u) ?_
          rintro _ h5 E5 rfl
          refine ⟨ext_wlm E5 _, ?_⟩
          refine dw_pure (i := 8) rfl (by decide +kernel) (pv_of (v := .bool _) rfl) ?_
          refine dw_end rfl ?_
          refine xp_cond rfl (fun hu => ?_) (fun hu => ?_)
          · skip
            have hu' : f.at i ≠ uptoM (f.at i) w := by
              intro e
              rw [← e] at hu
              simp at hu
            refine xp_region rfl ?_
            refine op_pure (pv_move (v := .int .i64 _) rfl) ?_
            refine op_pure (pv_arith rfl (by omega)) ?_
            refine op_pure (pv_assign (v := .int .i64 _) rfl) ?_
            refine xp_region rfl ?_
            refine op_pure (pv_arith rfl (by omega)) ?_
            refine op_pure (pv_move (v := .int .i64 _) rfl) ?_
            refine ⟨i + 1, ⟨rfl, rfl, intE (by rw [canN, if_pos hu']; omega), trivial⟩, rfl, rfl, (Ext.trans (Ext.trans E_i E_u) E5), fun h3 E3 => by omega, by first | omega | (dsimp only; omega), ?_⟩
            repeat (first | exact off_base _ _ _ | refine off_upd (by decide) ?_ | refine off_updL rfl ?_ | refine off_mix rfl ?_)
          · skip
            have hu' : ¬ f.at i ≠ uptoM (f.at i) w := by
              intro e
              simp at hu
              exact e (by exact_mod_cast hu)
            refine xp_skip ?_
            refine xp_region rfl ?_
            refine op_pure (pv_arith rfl (by omega)) ?_
            refine op_pure (pv_move (v := .int .i64 _) rfl) ?_
            refine ⟨i + 1, ⟨rfl, rfl, intE (by rw [canN, if_neg hu']; omega), trivial⟩, rfl, rfl, (Ext.trans (Ext.trans E_i E_u) E5), fun h3 E3 => by omega, by first | omega | (dsimp only; omega), ?_⟩
            repeat (first | exact off_base _ _ _ | refine off_upd (by decide) ?_ | refine off_updL rfl ?_ | refine off_mix rfl ?_)
      · skip
        have hie : i = s.joints.length := by have := geI hti; omega
        subst hie
        refine xp_exit ?_
        refine xp_region rfl ?_
        refine op_pure (pv_fieldAddr rfl rfl rfl rfl 0 rfl) ?_
        refine op_loadP 5 (v := .int .i64 _) rfl rfl rfl rfl ?_
        refine op_pure (pv_move (v := .int .i64 _) rfl) ?_
        refine op_pure (pv_min rfl rfl) ?_
        refine op_pure (pv_fieldAddr rfl rfl rfl rfl 1 rfl) ?_
        refine op_loadP 5 (v := .int .i64 _) rfl rfl rfl rfl ?_
        refine op_pure (pv_move (v := .int .i64 _) rfl) ?_
        refine op_pure (pv_max rfl rfl) ?_
        refine op_pure (pv_build (zc := [_, _]) (vs := [(0, .int .i64 _), (1, .int .i64 _)]) (cs := [_, _]) rfl rfl rfl rfl rfl rfl) ?_
        refine op_storeP 5 (v := .agg #[.int .i64 _, .int .i64 _]) (vs := [_, _]) (c' := [_, _]) rfl rfl rfl rfl rfl rfl rfl rfl rfl ?_
        refine wp_norm [_, _, _, _, _, _, _, _] rfl ?_
        intro V2
        refine ⟨rfl, ⟨_, _, rfl⟩, ?_⟩
        have V3 := valid_set (o' := obL lp .ready none) V2 (i := 6) rfl
        obtain ⟨h9, E9, e9, V9⟩ := wl_drop [_] [_, _, _, _, _, _, _] V3
        refine ⟨h9, _, e9, V9, Ext.trans E_i E9, rfl, Ext.trans (Ext.trans E0 E_i) E9, ?_⟩
        have eL : soundLo s w (done ++ [f]) = min (soundLo s w done) (mustN f w s.joints.length) := by unfold soundLo; rw [List.foldl_append]; rfl
        have eH : soundHi s w (done ++ [f]) = max (soundHi s w done) (canN f w s.joints.length) := by unfold soundHi; rw [List.foldl_append]; rfl
        rw [eL, eH, minN, maxN]
        rfl
    · rintro v H ⟨h', M', rfl, V', E', done, hdone, E0, rfl⟩
      refine ⟨h', [_, _, _, _, _, _], .ready, none, rfl, V', by simp, fun h'' E'' => ?_⟩
      refine goes_norm [_, _, _, _, _, _] rfl ?_
      refine xp_seq ?_
      refine xp_region rfl ?_
      refine op_loadPA 5 (vs := [.int .i64 _, .int .i64 _]) rfl rfl rfl rfl rfl ?_
      refine op_storeP 2 (v := .agg #[.int .i64 _, .int .i64 _]) (vs := [_, _]) (c' := [_, _]) rfl rfl rfl rfl rfl rfl rfl rfl rfl ?_
      refine wp_norm [_, _, _, _, _, _] rfl ?_
      refine op_pure (pv_assign (v := .int .i64 _) rfl) ?_
      refine xp_ret ?_
      refine res_listM (vs := [_, _]) rfl Try.results45 ⟨resV_agg 2 rfl rfl rfl rfl rfl (vs := [.int .i64 _, .int .i64 _]) rfl, resV_tmp rfl rfl, trivial⟩ fun hM EM V => ?_
      refine ⟨Ext.trans (Ext.trans (Ext.trans (Ext.trans (Ext.trans (Ext.trans E1 E2) E3) E4) E') E'') (Ext.trans EM (ext_wl V)), ?_⟩
      rw [soundV, if_pos he, Int.toNat_natCast, ← soundLo_same hdone, ← soundHi_same hdone, he]
      rfl
  · skip
    refine call_body Try.func45 rfl Try.ntmps45 rfl ?_
    refine xp_seq ?_
    refine xp_region rfl ?_
    refine op_box (v := .agg #[.slice _ _ _, .slice _ _ _, .slice _ _ _, .slice _ _ _]) (cs := [_, _, _, _]) rfl rfl fun b2 hb2 => ?_
    refine wp_norm [_] rfl ?_
    refine op_box (v := .int .i64 _) (cs := [_]) rfl rfl fun b3 hb3 => ?_
    refine wp_norm [_, _] rfl ?_
    refine op_alloc (cs := [_, _]) rfl rfl fun b4 hb4 => ?_
    refine wp_norm [_, _, _] rfl ?_
    refine op_pure (pv_assign (v := .int .i64 _) rfl) ?_
    refine xp_seq ?_
    refine xp_dw [] rfl rfl rfl ?_
    refine dw_load (i := 0) rfl (by decide +kernel) ?_
    refine op_loadPA 0 (vs := [.slice _ _ _, .slice _ _ _, .slice _ _ _, .slice _ _ _]) rfl rfl rfl rfl rfl ?_
    refine dw_load (i := 1) rfl (by decide +kernel) ?_
    refine op_loadPA 0 (vs := [.slice _ _ _, .slice _ _ _, .slice _ _ _, .slice _ _ _]) rfl rfl rfl rfl rfl ?_
    refine dw_load (i := 2) rfl (by decide +kernel) ?_
    refine op_loadP 1 (v := .int .i64 _) rfl rfl rfl rfl ?_
    refine dw_eff (i := 3) rfl (by decide +kernel) ?_
    refine op_fn (caps := []) (vs := [.agg #[.slice _ _ _, .slice _ _ _, .slice _ _ _, .slice _ _ _], .int .i64 _]) rfl rfl rfl (isWeek_ok s week A0 A1 A2 A3 c0 c1 c2 c3 Sm.h0 h) ?_
    rintro _ h1 E1 ⟨fn, caps, rfl, ak⟩
    refine ⟨ext_wlm E1 _, ?_⟩
    refine dw_eff (i := 4) rfl (by decide +kernel) ?_
    refine op_buildSlice (zc := [_]) (vs := [(0, _)]) (cs := [_]) rfl rfl rfl rfl rfl rfl rfl fun b18 hb18 => ?_
    refine ⟨ext_new hb18 _, ?_⟩
    refine dw_norm [_, _, _, _] rfl ?_
    refine dw_pub 3 rfl ?_
    intro h2 E2 p18
    refine dw_norm [_, _, _, _] rfl ?_
    refine dw_last (i := 5) rfl (by decide +kernel) (by decide +kernel) ?_
    refine op_fn (caps := []) (vs := [.agg #[.slice _ _ _, .slice _ _ _, .slice _ _ _, .slice _ _ _], .slice _ _ _]) rfl rfl rfl (known_no s A0 A1 A2 A3 c0 c1 c2 c3 h2 (R.ext (Ext.trans E1 E2)) Sm.h0 Sm.h1 Sm.h2 Sm.h3 [_] [_] _ _ (rowFn p18) rfl (by simp) (ask1 (ak.ext E2)) he) ?_
    rintro _ h3 E3 rfl
    refine dw_pure (i := 6) rfl (by decide +kernel) (pv_move (v := .tuple #[.agg #[.slice _ _ _, .map _, .map _, .map _, .map _, .slice _ _ _, .map _, .map _, .map _, .map _], .int .i64 _]) rfl) ?_
    refine dw_pure (i := 7) rfl (by decide +kernel) (pv_of (v := .agg #[.slice _ _ _, .map _, .map _, .map _, .map _, .slice _ _ _, .map _, .map _, .map _, .map _]) rfl) ?_
    refine dw_pure (i := 8) rfl (by decide +kernel) (pv_of (v := .int .i64 _) rfl) ?_
    refine dw_eff (i := 9) rfl (by decide +kernel) ?_
    refine op_alloc (cs := [_, _, _, _, _, _, _, _, _, _]) rfl rfl fun b6 hb6 => ?_
    refine ⟨ext_new hb6 _, ?_⟩
    refine dw_norm [_, _, _, _, _] rfl ?_
    refine dw_last (i := 10) rfl (by decide +kernel) (by decide +kernel) ?_
    refine op_storeP 4 (v := .agg #[.slice _ _ _, .map _, .map _, .map _, .map _, .slice _ _ _, .map _, .map _, .map _, .map _]) (vs := [_, _, _, _, _, _, _, _, _, _]) (c' := [_, _, _, _, _, _, _, _, _, _]) rfl rfl rfl rfl rfl rfl rfl rfl rfl ?_
    refine dw_norm [_, _, _, _, _] rfl ?_
    refine dw_pure (i := 11) rfl (by decide +kernel) (pv_assign (v := .int .i64 _) rfl) ?_
    refine dw_end rfl ?_
    refine xp_seq ?_
    refine xp_seq ?_
    refine xp_region rfl ?_
    refine op_pure (pv_move (v := .int .i64 _) rfl) ?_
    refine op_pure (pv_of (v := .bool _) rfl) ?_
    refine xp_condT rfl (by simpa [soundE] using he) ?_
    refine xp_seq ?_
    refine xp_region rfl ?_
    refine op_pure (pv_build (zc := [_, _]) (vs := []) (cs := [_, _]) rfl rfl rfl rfl rfl rfl) ?_
    refine op_pure (pv_move (v := .int .i64 _) rfl) ?_
    refine op_storeP 2 (v := .agg #[.int .i64 _, .int .i64 _]) (vs := [_, _]) (c' := [_, _]) rfl rfl rfl rfl rfl rfl rfl rfl rfl ?_
    refine wp_norm [_, _, _, _, _] rfl ?_
    refine op_pure (pv_assign (v := .int .i64 _) rfl) ?_
    refine xp_ret ?_
    refine res_list (vs := [_, _]) Try.results45 ⟨resV_agg 2 rfl rfl rfl rfl rfl (vs := [.int .i64 _, .int .i64 _]) rfl, resV_tmp rfl rfl, trivial⟩ fun V => ?_
    refine ⟨(Ext.trans (Ext.trans (Ext.trans E1 E2) E3) (ext_wl V)), ?_⟩
    rw [soundV, if_neg he]; rfl
end Go.Proofs.Ytndfkbapoinmkaa
/- Walks: small functions of the laws. Conditions: as each theorem states. -/
namespace Go.Proofs.Ytndfkbapoinmkaa
open Go Go.HL Go.Proofs Go.Wx
set_option maxRecDepth 100000
theorem Odds_ok (b x : Nat) (n m : Int) (hm : -2 ^ 30 ≤ m ∧ m ≤ 2 ^ 30) (h : AH) : FnM Try.prog (.func (.func 62) #[] ([] : List Value).toArray) [.pointer (some ⟨b, 0, none⟩), .int .i64 n, .int .i64 m] h [some (b, .cells #[.int .u64 (x : Int)] 95 (0, 0))]
    (fun v h' M' => ∃ (x' : Nat) (u : Bool), M' = [some (b, .cells #[.int .u64 (x' : Int)] 95 (0, 0))] ∧ v = .bool u) := by
  refine fnM_body rfl rfl Try.func62 rfl Try.ntmps62 rfl ?_
  refine xp_seq ?_
  refine xp_region rfl ?_
  refine op_pure (pv_assign (v := .bool _) rfl) ?_
  refine xp_seq ?_
  refine xp_region rfl ?_
  refine op_pure (pv_move (v := .pointer (some ⟨b, 0, none⟩)) rfl) ?_
  refine op_pure (pv_move (v := .int .i64 _) rfl) ?_
  refine op_pure (pv_arith rfl (by omega)) ?_
  refine op_fnMM [] [_] [] (vs := [.pointer _, .int .i64 _]) rfl rfl rfl ((Upto_ok b x (m - 1) (by omega) h)) ?_
  rintro _ h2 _ E2 ⟨x2, k, rfl, rfl, k1, k2⟩
  refine wp_norm [_] rfl ?_
  refine op_pure (pv_move (v := .int .i64 _) rfl) ?_
  refine op_pure (pv_of (v := .bool _) rfl) ?_
  refine op_pure (pv_assign (v := .bool _) rfl) ?_
  refine xp_ret ?_
  refine res_list (vs := [_]) Try.results62 ⟨resV_tmp rfl rfl, trivial⟩ fun V => ?_
  exact ⟨_, [_], rfl, V, E2, x2, _, rfl, rfl⟩
theorem place_ok (l : List Int) (z : Int) (A : Option Addr) (c : Nat) (h : AH) (R : Row h 1 intC A l) (hl : l.length < 2 ^ 40) :
    FnT Try.prog 61 #[.slice A l.length c, .int .i64 z] h (fun v _ => ∃ i : Int, v = .int .i64 i ∧ (0 ≤ i ↔ z ∈ l)) := by
  refine call_body Try.func61 rfl Try.ntmps61 rfl ?_
  refine xp_seq ?_
  refine xp_region rfl ?_
  refine op_pure (pv_assign (v := .int .i64 _) rfl) ?_
  refine xp_seq ?_
  refine xp_seq ?_
  refine xp_region rfl ?_
  refine op_pure (pv_assign (v := .int .i64 _) rfl) ?_
  refine xp_block ?_
  refine xp_loopB [4, 5, 6, 7, 8, 9, 10, 11, 12, 13, 14, 15, 16, 17, 18] 0 (α := Nat) (fun k => [(5, .int .i64 k)]) (fun k => _) (fun k h_k => k ≤ l.length ∧ z ∉ l.take k) (fun k => l.length - k) (0) ⟨rfl, trivial⟩ (rfl) (⟨Nat.zero_le _, by simp⟩) ?_
  rintro k T1 h_k E_k J_k
  refine goes_norm [] rfl ?_
  obtain ⟨K1, K2⟩ := J_k
  refine xp_seq ?_
  refine xp_seq ?_
  refine xp_region rfl ?_
  refine op_pure (pv_move (v := .int .i64 _) rfl) ?_
  refine op_pure (pv_move (v := .slice _ _ _) rfl) ?_
  refine op_pure (pv_len rfl rfl) ?_
  refine op_pure (pv_of (v := .bool _) rfl) ?_
  refine xp_cond rfl (fun hk => ?_) (fun hk => ?_)
  · skip
    have hkl : k < l.length := ltI hk
    obtain ⟨g, off, hA, hc⟩ := (R.ext E_k).at (by omega) hkl
    refine xp_skip ?_
    refine xp_seq ?_
    refine xp_block ?_
    refine xp_seq ?_
    refine xp_region rfl ?_
    refine op_pure (pv_move (v := .slice _ _ _) rfl) ?_
    refine op_pure (pv_move (v := .int .i64 _) rfl) ?_
    refine op_pure (pv_indexE rfl hA rfl rfl rfl (by omega) (by omega)) ?_
    refine op_load (v := .int .i64 _) rfl rfl ((hc) 0 _ rfl) ?_
    refine op_pure (pv_move (v := .int .i64 _) rfl) ?_
    refine op_pure (pv_of (v := .bool _) rfl) ?_
    refine xp_cond rfl (fun he => ?_) (fun he => ?_)
    · skip
      have he' : l[k] = z := by simpa using he
      have hz : z ∈ l := by rw [← he']; exact List.getElem_mem hkl
      refine xp_seq ?_
      refine xp_region rfl ?_
      refine op_pure (pv_move (v := .int .i64 _) rfl) ?_
      refine op_pure (pv_assign (v := .int .i64 _) rfl) ?_
      refine xp_ret ?_
      refine res_list (vs := [_]) Try.results61 ⟨resV_tmp rfl rfl, trivial⟩ fun V => ?_
      exact ⟨(Ext.trans E_k (ext_wl V)), k, rfl, fun _ => hz, fun _ => by omega⟩
    · skip
      have he' : ¬ l[k] = z := by simpa using he
      refine xp_skip ?_
      refine xp_region rfl ?_
      refine op_pure (pv_move (v := .int .i64 _) rfl) ?_
      refine op_pure (pv_arith rfl (by omega)) ?_
      refine op_pure (pv_assign (v := .int .i64 _) rfl) ?_
      refine ⟨k + 1, ⟨rfl, trivial⟩, rfl, rfl, E_k, fun h3 E3 => ⟨hkl, by rw [take_snoc hkl, List.mem_append, List.mem_singleton]; exact fun h => h.elim K2 (fun e => he' e.symm)⟩, by first | omega | (dsimp only; omega), ?_⟩
      repeat (first | exact off_base _ _ _ | refine off_upd (by decide) ?_ | refine off_updL rfl ?_ | refine off_mix rfl ?_)
  · skip
    have hke : k = l.length := by have := geI hk; omega
    subst hke
    rw [List.take_length] at K2
    refine xp_exit ?_
    refine xp_seq ?_
    refine xp_region rfl ?_
    refine op_pure (pv_assign (v := .int .i64 _) rfl) ?_
    refine xp_ret ?_
    refine res_list (vs := [_]) Try.results61 ⟨resV_tmp rfl rfl, trivial⟩ fun V => ?_
    exact ⟨(Ext.trans E_k (ext_wl V)), -1, rfl, fun h => absurd h (by decide), fun h => absurd h K2⟩
theorem In_ok (x : Rg) (n : Int) (h : AH) : FnT Try.prog 70 #[rgV x, .int .i64 n] h (fun v _ => v = .bool (decide (x.mn ≤ n) && decide (n ≤ x.mx))) := by
  refine call_body Try.func70 rfl Try.ntmps70 rfl ?_
  refine xp_seq ?_
  refine xp_region rfl ?_
  refine op_box (v := .agg #[.int .i64 _, .int .i64 _]) (cs := [_, _]) rfl rfl fun b2 hb2 => ?_
  refine wp_norm [_] rfl ?_
  refine op_pure (pv_assign (v := .bool _) rfl) ?_
  refine xp_seq ?_
  refine xp_region rfl ?_
  refine op_pure (pv_fieldAddr rfl rfl rfl rfl 0 rfl) ?_
  refine op_loadP 0 (v := .int .i64 _) rfl rfl rfl rfl ?_
  refine op_pure (pv_move (v := .int .i64 _) rfl) ?_
  refine op_pure (pv_of (v := .bool _) rfl) ?_
  refine op_pure (pv_move (v := .bool _) rfl) ?_
  rcases Bool.eq_false_or_eq_true (decide (x.mn ≤ n)) with e | e
  · skip
    refine guard_yes rfl e ?_
    refine op_pure (pv_move (v := .int .i64 _) rfl) ?_
    refine guard_yes rfl e ?_
    refine op_pure (pv_fieldAddr rfl rfl rfl rfl 1 rfl) ?_
    refine guard_yes rfl e ?_
    refine op_loadP 0 (v := .int .i64 _) rfl rfl rfl rfl ?_
    refine guard_yes rfl e ?_
    refine op_pure (pv_of (v := .bool _) rfl) ?_
    refine op_pure (pv_pickT rfl e (v := .bool _) rfl) ?_
    refine op_pure (pv_assign (v := .bool _) rfl) ?_
    refine xp_ret ?_
    refine res_list (vs := [_]) Try.results70 ⟨resV_tmp rfl rfl, trivial⟩ fun V => ?_
    exact ⟨(ext_wl V), by rw [e]; rfl⟩
  · skip
    refine guard_no rfl e ?_
    refine guard_no rfl e ?_
    refine guard_no rfl e ?_
    refine guard_no rfl e ?_
    refine op_pure (pv_pickF rfl e (v := .bool _) rfl) ?_
    refine op_pure (pv_assign (v := .bool _) rfl) ?_
    refine xp_ret ?_
    refine res_list (vs := [_]) Try.results70 ⟨resV_tmp rfl rfl, trivial⟩ fun V => ?_
    exact ⟨(ext_wl V), by rw [e]; rfl⟩
theorem Wider_ok (x y : Rg) (h : AH) : FnT Try.prog 60 #[rgV x, rgV y] h (fun v _ => v = .bool (decide (x.mn ≤ y.mn) && decide (y.mx ≤ x.mx))) := by
  refine call_body Try.func60 rfl Try.ntmps60 rfl ?_
  refine xp_seq ?_
  refine xp_region rfl ?_
  refine op_box (v := .agg #[.int .i64 _, .int .i64 _]) (cs := [_, _]) rfl rfl fun b2 hb2 => ?_
  refine wp_norm [_] rfl ?_
  refine op_box (v := .agg #[.int .i64 _, .int .i64 _]) (cs := [_, _]) rfl rfl fun b3 hb3 => ?_
  refine wp_norm [_, _] rfl ?_
  refine op_pure (pv_assign (v := .bool _) rfl) ?_
  refine xp_seq ?_
  refine xp_region rfl ?_
  refine op_pure (pv_fieldAddr rfl rfl rfl rfl 0 rfl) ?_
  refine op_loadP 0 (v := .int .i64 _) rfl rfl rfl rfl ?_
  refine op_pure (pv_fieldAddr rfl rfl rfl rfl 0 rfl) ?_
  refine op_loadP 1 (v := .int .i64 _) rfl rfl rfl rfl ?_
  refine op_pure (pv_of (v := .bool _) rfl) ?_
  refine op_pure (pv_move (v := .bool _) rfl) ?_
  rcases Bool.eq_false_or_eq_true (decide (x.mn ≤ y.mn)) with e | e
  · skip
    refine guard_yes rfl e ?_
    refine op_pure (pv_fieldAddr rfl rfl rfl rfl 1 rfl) ?_
    refine guard_yes rfl e ?_
    refine op_loadP 1 (v := .int .i64 _) rfl rfl rfl rfl ?_
    refine guard_yes rfl e ?_
    refine op_pure (pv_fieldAddr rfl rfl rfl rfl 1 rfl) ?_
    refine guard_yes rfl e ?_
    refine op_loadP 0 (v := .int .i64 _) rfl rfl rfl rfl ?_
    refine guard_yes rfl e ?_
    refine op_pure (pv_of (v := .bool _) rfl) ?_
    refine op_pure (pv_pickT rfl e (v := .bool _) rfl) ?_
    refine op_pure (pv_assign (v := .bool _) rfl) ?_
    refine xp_ret ?_
    refine res_list (vs := [_]) Try.results60 ⟨resV_tmp rfl rfl, trivial⟩ fun V => ?_
    exact ⟨(ext_wl V), by rw [e]; rfl⟩
  · skip
    refine guard_no rfl e ?_
    refine guard_no rfl e ?_
    refine guard_no rfl e ?_
    refine guard_no rfl e ?_
    refine guard_no rfl e ?_
    refine op_pure (pv_pickF rfl e (v := .bool _) rfl) ?_
    refine op_pure (pv_assign (v := .bool _) rfl) ?_
    refine xp_ret ?_
    refine res_list (vs := [_]) Try.results60 ⟨resV_tmp rfl rfl, trivial⟩ fun V => ?_
    exact ⟨(ext_wl V), by rw [e]; rfl⟩
theorem Narrow_ok (b x : Nat) (r : Rg) (n : Int) (h1 : -2 ^ 30 ≤ r.mn) (h2 : r.mn ≤ n) (h3 : n ≤ r.mx) (h4 : r.mx ≤ 2 ^ 30) (h : AH) : FnM Try.prog (.func (.func 57) #[] ([] : List Value).toArray) [.pointer (some ⟨b, 0, none⟩), rgV r, .int .i64 n] h [some (b, .cells #[.int .u64 (x : Int)] 95 (0, 0))]
    (fun v h' M' => ∃ (x' : Nat) (q : Rg), M' = [some (b, .cells #[.int .u64 (x' : Int)] 95 (0, 0))] ∧ v = rgV q ∧ r.mn ≤ q.mn ∧ q.mn ≤ n ∧ n ≤ q.mx ∧ q.mx ≤ r.mx) := by
  refine fnM_body rfl rfl Try.func57 rfl Try.ntmps57 rfl ?_
  refine xp_seq ?_
  refine xp_region rfl ?_
  refine op_box (v := .agg #[.int .i64 _, .int .i64 _]) (cs := [_, _]) rfl rfl fun b4 hb4 => ?_
  refine wp_norm [_, _] rfl ?_
  refine op_alloc (cs := [_, _]) rfl rfl fun b6 hb6 => ?_
  refine wp_norm [_, _, _] rfl ?_
  refine xp_seq ?_
  refine xp_dw [true, false, false] rfl rfl rfl ?_
  refine dw_pure (i := 0) rfl (by decide +kernel) (pv_move (v := .pointer (some ⟨b, 0, none⟩)) rfl) ?_
  refine dw_pure (i := 1) rfl (by decide +kernel) (pv_fieldAddr rfl rfl rfl rfl 0 rfl) ?_
  refine dw_load (i := 2) rfl (by decide +kernel) ?_
  refine op_loadP 1 (v := .int .i64 _) rfl rfl rfl rfl ?_
  refine dw_pure (i := 3) rfl (by decide +kernel) (pv_move (v := .int .i64 _) rfl) ?_
  refine dw_pure (i := 4) rfl (by decide +kernel) (pv_move (v := .pointer (some ⟨b, 0, none⟩)) rfl) ?_
  refine dw_pure (i := 5) rfl (by decide +kernel) (pv_fieldAddr rfl rfl rfl rfl 0 rfl) ?_
  refine dw_load (i := 6) rfl (by decide +kernel) ?_
  refine op_loadP 1 (v := .int .i64 _) rfl rfl rfl rfl ?_
  refine dw_pure (i := 7) rfl (by decide +kernel) (pv_move (v := .int .i64 _) rfl) ?_
  refine dw_pure (i := 11) rfl (by decide +kernel) (pv_move (v := .pointer (some ⟨b, 0, none⟩)) rfl) ?_
  refine dw_pure (i := 12) rfl (by decide +kernel) (pv_fieldAddr rfl rfl rfl rfl 1 rfl) ?_
  refine dw_load (i := 13) rfl (by decide +kernel) ?_
  refine op_loadP 1 (v := .int .i64 _) rfl rfl rfl rfl ?_
  refine dw_pure (i := 14) rfl (by decide +kernel) (pv_move (v := .int .i64 _) rfl) ?_
  refine dw_pure (i := 15) rfl (by decide +kernel) (pv_move (v := .pointer (some ⟨b, 0, none⟩)) rfl) ?_
  refine dw_pure (i := 16) rfl (by decide +kernel) (pv_move (v := .int .i64 _) rfl) ?_
  refine dw_pure (i := 17) rfl (by decide +kernel) (pv_fieldAddr rfl rfl rfl rfl 1 rfl) ?_
  refine dw_load (i := 18) rfl (by decide +kernel) ?_
  refine op_loadP 1 (v := .int .i64 _) rfl rfl rfl rfl ?_
  refine dw_eff (i := 8) rfl (by decide +kernel) ?_
  refine op_fnMM [] [_] [_, _] (vs := [.pointer _, .int .i64 _, .int .i64 _]) rfl rfl rfl ((Within_ok b x r.mn n (by omega) (by omega) (by omega) h)) ?_
  rintro _ g2 _ E2 ⟨x2, k2, rfl, rfl, k21, k22⟩
  refine ⟨ext_wlm E2 _, ?_⟩
  refine dw_norm [_, _, _] rfl ?_
  refine dw_eff (i := 9) rfl (by decide +kernel) ?_
  refine op_buildSlice (zc := [_]) (vs := [(0, .int .i64 _), (1, .int .i64 _), (2, .int .i64 _)]) (cs := [_, _, _]) rfl rfl rfl rfl rfl rfl rfl fun b16 hb16 => ?_
  refine ⟨ext_newM hb16 _, ?_⟩
  refine dw_norm [_, _, _, _] rfl ?_
  refine dw_pubM 3 rfl ?_
  intro g3 E3 p3
  refine dw_norm [_, _, _, _] rfl ?_
  refine dw_eff (i := 10) rfl (by decide +kernel) ?_
  refine op_fnMM [] [_] [_, _, _] (vs := [.pointer _, .slice _ _ _]) rfl rfl rfl ((Of_ok b x2 [r.mn, n, k2] (by simp) (by simp) _ _ g3 (row_of_block (enc := intC) (m := 1) (l := [r.mn, n, k2]) (fun _ _ => rfl) p3))) ?_
  rintro _ g4 _ E4 ⟨x4, k4, rfl, rfl, k4m⟩
  refine ⟨ext_wlm E4 _, ?_⟩
  refine dw_norm [_, _, _, _] rfl ?_
  have k4b : r.mn ≤ k4 ∧ k4 ≤ n := by simp at k4m; omega
  refine dw_eff (i := 19) rfl (by decide +kernel) ?_
  refine op_fnMM [] [_] [_, _, _] (vs := [.pointer _, .int .i64 _, .int .i64 _]) rfl rfl rfl ((Within_ok b x4 n r.mx (by omega) (by omega) (by omega) g4)) ?_
  rintro _ g5 _ E5 ⟨x5, k5, rfl, rfl, k51, k52⟩
  refine ⟨ext_wlm E5 _, ?_⟩
  refine dw_norm [_, _, _, _] rfl ?_
  refine dw_last (i := 20) rfl (by decide +kernel) (by decide +kernel) ?_
  refine op_buildSlice (zc := [_]) (vs := [(0, .int .i64 _), (1, .int .i64 _), (2, .int .i64 _)]) (cs := [_, _, _]) rfl rfl rfl rfl rfl rfl rfl fun b27 hb27 => ?_
  refine dw_norm [_, _, _, _, _] rfl ?_
  refine dw_pubM 4 rfl ?_
  intro g6 E6 p6
  refine dw_norm [_, _, _, _, _] rfl ?_
  refine dw_last (i := 21) rfl (by decide +kernel) (by decide +kernel) ?_
  refine op_fnMM [] [_] [_, _, _, _] (vs := [.pointer _, .slice _ _ _]) rfl rfl rfl ((Of_ok b x5 [r.mx, n, k5] (by simp) (by simp) _ _ g6 (row_of_block (enc := intC) (m := 1) (l := [r.mx, n, k5]) (fun _ _ => rfl) p6))) ?_
  rintro _ g7 _ E7 ⟨x7, k7, rfl, rfl, k7m⟩
  refine dw_norm [_, _, _, _, _] rfl ?_
  have k7b : n ≤ k7 ∧ k7 ≤ r.mx := by simp at k7m; omega
  refine dw_pure (i := 22) rfl (by decide +kernel) (pv_build (zc := [_, _]) (vs := [(0, .int .i64 _), (1, .int .i64 _)]) (cs := [_, _]) rfl rfl rfl rfl rfl rfl) ?_
  refine dw_last (i := 23) rfl (by decide +kernel) (by decide +kernel) ?_
  refine op_storeP 2 (v := .agg #[.int .i64 _, .int .i64 _]) (vs := [_, _]) (c' := [_, _]) rfl rfl rfl rfl rfl rfl rfl rfl rfl ?_
  refine dw_norm [_, _, _, _, _] rfl ?_
  refine dw_end rfl ?_
  refine xp_ret ?_
  refine res_list (vs := [_]) Try.results57 ⟨resV_agg 2 rfl rfl rfl rfl rfl (vs := [.int .i64 _, .int .i64 _]) rfl, trivial⟩ fun V => ?_
  obtain ⟨h9, E9, e9, V9⟩ := wl_drop [_, _, _, _] [_] V
  exact ⟨h9, _, e9, V9, Ext.trans (Ext.trans (Ext.trans (Ext.trans (Ext.trans (Ext.trans E2 E3) E4) E5) E6) E7) E9, x7, ⟨k4, k7⟩, rfl, rfl, k4b.1, k4b.2, k7b.1, k7b.2⟩
theorem Pick_ok (b x n : Nat) (hn : n < 2 ^ 20) (h : AH) : FnM Try.prog (.func (.func 36) #[] ([] : List Value).toArray) [.pointer (some ⟨b, 0, none⟩), .int .i64 n] h [some (b, .cells #[.int .u64 (x : Int)] 95 (0, 0))]
    (fun v h' M' => ∃ (x' : Nat) (l : List Int), M' = [some (b, .cells #[.int .u64 (x' : Int)] 95 (0, 0))] ∧ SlR h' 1 intC l v ∧ (∀ z ∈ l, 0 ≤ z ∧ z < n) ∧ l.Pairwise (· < ·) ∧ l.length ≤ n) := by
  refine fnM_body rfl rfl Try.func36 rfl Try.ntmps36 rfl ?_
  refine goes_more ?_
  refine goes_norm [_, _] rfl ?_
  refine xp_seq ?_
  refine xp_region rfl ?_
  refine op_pure (pv_assign (v := .slice _ _ _) rfl) ?_
  refine xp_seq ?_
  refine xp_region rfl ?_
  refine op_pure (pv_assign (v := .slice _ _ _) rfl) ?_
  refine xp_seq ?_
  refine xp_seq ?_
  refine xp_region rfl ?_
  refine op_pure (pv_assign (v := .int .i64 _) rfl) ?_
  refine xp_block ?_
  refine xp_loopL [5, 6, 7, 8, 9, 10, 11, 12, 13, 14, 15, 16, 17] 2 (α := Nat × Nat × List Int × Acc) (fun ⟨i, y, l, a⟩ => [(6, .int .i64 i), (5, .slice a.A a.n a.c)]) (fun ⟨i, y, l, a⟩ L => (L.set 0 (some (b, .cells #[.int .u64 (y : Int)] 95 (0, 0)))).set 1 (a.p)) (fun ⟨i, y, l, a⟩ h_i => (i ≤ n ∧ l.length ≤ i) ∧ (∀ z ∈ l, 0 ≤ z ∧ z < i) ∧ l.Pairwise (· < ·) ∧ AccR 3 1 (l.flatMap intC) a) (fun ⟨i, y, l, a⟩ => n - i) ((0, x, [], acc0)) ⟨rfl, rfl, trivial⟩ (rfl) (⟨⟨Nat.zero_le _, Nat.le_refl _⟩, by simp, List.Pairwise.nil, accR0⟩) ?_
  rintro ⟨i, y, l, a⟩ T1 h_i E_i J_i
  refine goes_norm [_, _] rfl ?_
  obtain ⟨⟨K1, K2⟩, K3, K4, K5⟩ := J_i
  refine xp_seq ?_
  refine xp_seq ?_
  refine xp_region rfl ?_
  refine op_pure (pv_move (v := .int .i64 _) rfl) ?_
  refine op_pure (pv_move (v := .int .i64 _) rfl) ?_
  refine op_pure (pv_of (v := .bool _) rfl) ?_
  refine xp_cond rfl (fun ht => ?_) (fun ht => ?_)
  · skip
    have hin : i < n := ltI ht
    refine xp_skip ?_
    refine xp_seq ?_
    refine xp_block ?_
    refine xp_seq ?_
    refine xp_region rfl ?_
    refine op_pure (pv_move (v := .pointer (some ⟨b, 0, none⟩)) rfl) ?_
    refine op_fnMM [] [_] [_] (vs := [.pointer _, .int .i64 _, .int .i64 _]) rfl rfl rfl ((Odds_ok b y 1 2 (by omega) h_i)) ?_
    rintro _ g2 _ E2 ⟨y2, u, rfl, rfl⟩
    refine wp_norm [_, _] rfl ?_
    refine xp_cond rfl (fun hu => ?_) (fun hu => ?_)
    · skip
      refine xp_region rfl ?_
      refine op_pure (pv_move (v := .slice _ _ _) rfl) ?_
      refine op_pure (pv_move (v := .int .i64 _) rfl) ?_
      refine op_buildSlice (zc := [_]) (vs := [(0, .int .i64 _)]) (cs := [_]) rfl rfl rfl rfl rfl rfl rfl fun b16 hb16 => ?_
      refine wp_norm [_, _, _] rfl ?_
      refine op_appendR 1 K5 rfl rfl rfl (fun V => rdP V (i := 2) rfl) rfl rfl rfl rfl rfl rfl rfl rfl rfl (by omega) rfl (by rw [flat_len (m := 1) (fun _ _ => rfl)]; simp; omega) fun a2 h2a E2a ha2 => ?_
      refine wp_norm [_, _, _] rfl ?_
      refine op_pure (pv_assign (v := .slice _ _ _) rfl) ?_
      refine xp_region rfl ?_
      refine op_pure (pv_move (v := .int .i64 _) rfl) ?_
      refine op_pure (pv_arith rfl (by omega)) ?_
      refine op_pure (pv_assign (v := .int .i64 _) rfl) ?_
      refine ⟨(i + 1, y2, l ++ [(i : Int)], a2), ⟨rfl, rfl, trivial⟩, rfl, rfl, (Ext.trans (Ext.trans E_i E2) E2a), fun h3 E3 => ⟨⟨hin, by rw [List.length_append]; simp; omega⟩, fun z hz => (List.mem_append.1 hz).elim (fun h => by have := K3 z h; omega) (fun h => by rw [List.mem_singleton.1 h]; omega), List.pairwise_append.2 ⟨K4, by simp, fun z hz w hw => by rw [List.mem_singleton.1 hw]; exact (K3 z hz).2⟩, by rw [List.flatMap_append]; exact ha2⟩, by first | omega | (dsimp only; omega), ?_⟩
      repeat (first | exact off_base _ _ _ | refine off_upd (by decide) ?_ | refine off_updL rfl ?_ | refine off_mix rfl ?_)
    · skip
      refine xp_skip ?_
      refine xp_region rfl ?_
      refine op_pure (pv_move (v := .int .i64 _) rfl) ?_
      refine op_pure (pv_arith rfl (by omega)) ?_
      refine op_pure (pv_assign (v := .int .i64 _) rfl) ?_
      refine ⟨(i + 1, y2, l, a), ⟨rfl, rfl, trivial⟩, rfl, rfl, (Ext.trans E_i E2), fun h3 E3 => ⟨⟨hin, by omega⟩, fun z hz => by have := K3 z hz; omega, K4, K5⟩, by first | omega | (dsimp only; omega), ?_⟩
      repeat (first | exact off_base _ _ _ | refine off_upd (by decide) ?_ | refine off_updL rfl ?_ | refine off_mix rfl ?_)
  · skip
    have hie : i = n := by have := geI ht; omega
    subst hie
    obtain ⟨p7, A7, n7, c7⟩ := a
    obtain rfl : n7 = l.length := by have := AccR.len K5; rw [flat_len (m := 1) (fun _ _ => rfl)] at this; dsimp only at this; omega
    dsimp only
    refine goes_pubO 1 rfl ?_
    intro g7 G7 P7
    refine goes_norm [_, _] rfl ?_
    refine xp_exit ?_
    refine xp_seq ?_
    refine xp_region rfl ?_
    refine op_pure (pv_move (v := .slice _ _ _) rfl) ?_
    refine op_pure (pv_assign (v := .slice _ _ _) rfl) ?_
    refine xp_ret ?_
    refine res_list (vs := [_]) Try.results36 ⟨resV_tmp rfl rfl, trivial⟩ fun V => ?_
    obtain ⟨h9, E9, e9, V9⟩ := wl_drop [_] [_] V
    exact ⟨h9, _, e9, V9, Ext.trans (Ext.trans E_i G7) E9, y, l, rfl, ⟨A7, c7, rfl, Row.ext (⟨fun _ _ => rfl, AccR.rd K5 P7⟩ : Row g7 1 intC A7 l) E9⟩, K3, K4, K2⟩
/-- Whether a verdict is right. -/
def rightM (v : Int) (is : Bool) : Bool := decide (v = 3) || (decide (v = 1) && is) || (decide (v = 2) && !is)
theorem right_ok (v : Int) (is : Bool) (h : AH) : FnT Try.prog 69 #[.int .i64 v, .bool is] h (fun w _ => w = .bool (rightM v is)) := by
  refine call_body Try.func69 rfl Try.ntmps69 rfl ?_
  refine xp_seq ?_
  refine xp_region rfl ?_
  refine op_pure (pv_assign (v := .bool _) rfl) ?_
  refine xp_seq ?_
  refine xp_region rfl ?_
  refine op_pure (pv_move (v := .int .i64 _) rfl) ?_
  refine op_pure (pv_of (v := .bool _) rfl) ?_
  refine op_pure (pv_move (v := .bool _) rfl) ?_
  rcases Bool.eq_false_or_eq_true (decide (v = 3)) with e3 | e3
  · skip
    have e := of_decide_eq_true e3
    subst e
    refine guard_no rfl rfl ?_
    refine guard_no rfl rfl ?_
    refine guard_no rfl rfl ?_
    refine guard_un rfl ?_
    refine guard_no rfl rfl ?_
    refine op_pure (pv_pickT rfl rfl (v := .bool _) rfl) ?_
    refine op_pure (pv_move (v := .bool _) rfl) ?_
    refine guard_no rfl rfl ?_
    refine guard_no rfl rfl ?_
    refine guard_no rfl rfl ?_
    refine guard_un rfl ?_
    refine guard_un rfl ?_
    refine guard_no rfl rfl ?_
    refine op_pure (pv_pickT rfl rfl (v := .bool _) rfl) ?_
    refine op_pure (pv_assign (v := .bool _) rfl) ?_
    refine xp_ret ?_
    refine res_list (vs := [_]) Try.results69 ⟨resV_tmp rfl rfl, trivial⟩ fun V => ?_
    exact ⟨(ext_wl V), rfl⟩
  · skip
    rcases Bool.eq_false_or_eq_true (decide (v = 1)) with e1 | e1
    · skip
      have e := of_decide_eq_true e1
      subst e
      cases is
      · skip
        refine guard_yes rfl rfl ?_
        refine op_pure (pv_move (v := .int .i64 _) rfl) ?_
        refine guard_yes rfl rfl ?_
        refine op_pure (pv_of (v := .bool _) rfl) ?_
        refine guard_yes rfl rfl ?_
        refine op_pure (pv_move (v := .bool _) rfl) ?_
        refine guard_yes rfl rfl ?_
        refine op_pure (pv_move (v := .bool _) rfl) ?_
        refine guard_yes rfl rfl ?_
        refine op_pure (pv_pickT rfl rfl (v := .bool _) rfl) ?_
        refine op_pure (pv_pickF rfl rfl (v := .bool _) rfl) ?_
        refine op_pure (pv_move (v := .bool _) rfl) ?_
        refine guard_yes rfl rfl ?_
        refine op_pure (pv_move (v := .int .i64 _) rfl) ?_
        refine guard_yes rfl rfl ?_
        refine op_pure (pv_of (v := .bool _) rfl) ?_
        refine guard_yes rfl rfl ?_
        refine op_pure (pv_move (v := .bool _) rfl) ?_
        refine guard_no rfl rfl ?_
        refine guard_no rfl rfl ?_
        refine guard_yes rfl rfl ?_
        refine op_pure (pv_pickF rfl rfl (v := .bool _) rfl) ?_
        refine op_pure (pv_pickF rfl rfl (v := .bool _) rfl) ?_
        refine op_pure (pv_assign (v := .bool _) rfl) ?_
        refine xp_ret ?_
        refine res_list (vs := [_]) Try.results69 ⟨resV_tmp rfl rfl, trivial⟩ fun V => ?_
        exact ⟨(ext_wl V), rfl⟩
      · skip
        refine guard_yes rfl rfl ?_
        refine op_pure (pv_move (v := .int .i64 _) rfl) ?_
        refine guard_yes rfl rfl ?_
        refine op_pure (pv_of (v := .bool _) rfl) ?_
        refine guard_yes rfl rfl ?_
        refine op_pure (pv_move (v := .bool _) rfl) ?_
        refine guard_yes rfl rfl ?_
        refine op_pure (pv_move (v := .bool _) rfl) ?_
        refine guard_yes rfl rfl ?_
        refine op_pure (pv_pickT rfl rfl (v := .bool _) rfl) ?_
        refine op_pure (pv_pickF rfl rfl (v := .bool _) rfl) ?_
        refine op_pure (pv_move (v := .bool _) rfl) ?_
        refine guard_no rfl rfl ?_
        refine guard_no rfl rfl ?_
        refine guard_no rfl rfl ?_
        refine guard_un rfl ?_
        refine guard_un rfl ?_
        refine guard_no rfl rfl ?_
        refine op_pure (pv_pickT rfl rfl (v := .bool _) rfl) ?_
        refine op_pure (pv_assign (v := .bool _) rfl) ?_
        refine xp_ret ?_
        refine res_list (vs := [_]) Try.results69 ⟨resV_tmp rfl rfl, trivial⟩ fun V => ?_
        exact ⟨(ext_wl V), rfl⟩
    · skip
      rcases Bool.eq_false_or_eq_true (decide (v = 2)) with e2 | e2
      · skip
        have e := of_decide_eq_true e2
        subst e
        refine guard_yes rfl e3 ?_
        refine op_pure (pv_move (v := .int .i64 _) rfl) ?_
        refine guard_yes rfl e3 ?_
        refine op_pure (pv_of (v := .bool _) rfl) ?_
        refine guard_yes rfl e3 ?_
        refine op_pure (pv_move (v := .bool _) rfl) ?_
        refine guard_no rfl e1 ?_
        refine guard_yes rfl e3 ?_
        refine op_pure (pv_pickF rfl e1 (v := .bool _) rfl) ?_
        refine op_pure (pv_pickF rfl e3 (v := .bool _) rfl) ?_
        refine op_pure (pv_move (v := .bool _) rfl) ?_
        refine guard_yes rfl rfl ?_
        refine op_pure (pv_move (v := .int .i64 _) rfl) ?_
        refine guard_yes rfl rfl ?_
        refine op_pure (pv_of (v := .bool _) rfl) ?_
        refine guard_yes rfl rfl ?_
        refine op_pure (pv_move (v := .bool _) rfl) ?_
        refine guard_yes rfl rfl ?_
        refine op_pure (pv_move (v := .bool _) rfl) ?_
        refine guard_yes rfl rfl ?_
        refine op_pure (pv_of (v := .bool _) rfl) ?_
        refine guard_yes rfl rfl ?_
        refine op_pure (pv_pickT rfl rfl (v := .bool _) rfl) ?_
        refine op_pure (pv_pickF rfl rfl (v := .bool _) rfl) ?_
        refine op_pure (pv_assign (v := .bool _) rfl) ?_
        refine xp_ret ?_
        refine res_list (vs := [_]) Try.results69 ⟨resV_tmp rfl rfl, trivial⟩ fun V => ?_
        exact ⟨(ext_wl V), by cases is <;> rfl⟩
      · skip
        refine guard_yes rfl e3 ?_
        refine op_pure (pv_move (v := .int .i64 _) rfl) ?_
        refine guard_yes rfl e3 ?_
        refine op_pure (pv_of (v := .bool _) rfl) ?_
        refine guard_yes rfl e3 ?_
        refine op_pure (pv_move (v := .bool _) rfl) ?_
        refine guard_no rfl e1 ?_
        refine guard_yes rfl e3 ?_
        refine op_pure (pv_pickF rfl e1 (v := .bool _) rfl) ?_
        refine op_pure (pv_pickF rfl e3 (v := .bool _) rfl) ?_
        refine op_pure (pv_move (v := .bool _) rfl) ?_
        refine guard_yes rfl rfl ?_
        refine op_pure (pv_move (v := .int .i64 _) rfl) ?_
        refine guard_yes rfl rfl ?_
        refine op_pure (pv_of (v := .bool _) rfl) ?_
        refine guard_yes rfl rfl ?_
        refine op_pure (pv_move (v := .bool _) rfl) ?_
        refine guard_no rfl e2 ?_
        refine guard_no rfl e2 ?_
        refine guard_yes rfl rfl ?_
        refine op_pure (pv_pickF rfl e2 (v := .bool _) rfl) ?_
        refine op_pure (pv_pickF rfl rfl (v := .bool _) rfl) ?_
        refine op_pure (pv_assign (v := .bool _) rfl) ?_
        refine xp_ret ?_
        refine res_list (vs := [_]) Try.results69 ⟨resV_tmp rfl rfl, trivial⟩ fun V => ?_
        exact ⟨(ext_wl V), by rw [rightM, e1, e2, e3]; rfl⟩
end Go.Proofs.Ytndfkbapoinmkaa
/- Plain: all reports left out. Conditions: as each theorem states. -/
namespace Go.Wx
open Go Go.HL
theorem keepN_none {l : List Int} : ∀ (a : List Seen) (i : Nat), (∀ k, k < a.length → ((i + k : Nat) : Int) ∈ l) → keepN l i a = []
  | [], i, _ => rfl
  | r :: a, i, h => by
    rw [keepN, if_pos (by have := h 0 (by simp); simpa using this)]
    exact keepN_none a (i + 1) fun k hk => by have := h (k + 1) (by simpa using hk); rwa [show i + 1 + k = i + (k + 1) from by omega]
theorem without_full (s : Season) : withoutS s ((List.range' 0 s.reports.length).map fun i : Nat => (i : Int)) = { s with reports := [] } := by
  unfold withoutS
  rw [keepN_none]
  intro k hk
  exact List.mem_map.2 ⟨k, by rw [List.mem_range'_1]; omega, by simp⟩
theorem wrong_some {s : Season} (c : CheckS s) : ∃ x, fewestP s.reports.length (fun l => mayM (withoutS s l)) (s.reports.length + 1) = some x := by
  have hp : mayM (withoutS s ((List.range' 0 s.reports.length).map fun i : Nat => (i : Int))) = true := may_bare (c.without _) (by rw [without_full])
  obtain ⟨y, e, _⟩ := fewestP_le (p := fun l => mayM (withoutS s l)) (full_mem s.reports.length s.reports.length 0 (by omega)) hp (Nat.lt_succ_self _)
  exact ⟨y, e⟩
theorem CheckS.reports {s : Season} (c : CheckS s) {rs : List Seen} (h5 : rs.length ≤ 5) (h : ∀ r ∈ rs, checkSeenM s r = 0) : CheckS { s with reports := rs } :=
  ⟨c.w1, c.w6, c.dl, c.h, c.d, c.j3, c.j, h5, fun r hr => checkSeen_iff.2 (checkSeen_iff.1 (h r hr))⟩
theorem weather_without {s : Season} (c : CheckS s) (l : List Int) : weatherE (withoutS s l) 1 = if mayM (withoutS s l) then 0 else 9 := by
  unfold weatherE knownM
  rw [(c.without l).ok, if_neg (by simp)]
  rfl
end Go.Wx
/- Walks: a season without some reports (the reference). Conditions: as each theorem states. -/
namespace Go.Proofs.Ytndfkbapoinmkaa
open Go Go.HL Go.Proofs Go.Wx
set_option maxRecDepth 100000
theorem takeMem {l : List Int} {k : Nat} {z : Int} (h : k < l.length) : decide (z ∈ l.take (k + 1)) = (decide (z ∈ l.take k) || decide (l[k] = z)) := by
  rw [take_snoc h, Bool.eq_iff_iff]
  simp only [decide_eq_true_eq, Bool.or_eq_true, List.mem_append, List.mem_singleton]
  exact ⟨fun h => h.imp id Eq.symm, fun h => h.imp id Eq.symm⟩
set_option maxHeartbeats 1000000 in
theorem Without_ok (s : Season) (hr : s.reports.length < 2 ^ 19) (l : List Int) (hl : l.length < 2 ^ 20) (B : Option Addr) (cB : Nat) (A0 A1 A2 A3 : Option Addr) (c0 c1 c2 c3 : Nat) (h : AH) (R : SeasonR h A0 A1 A2 A3 s) (RB : Row h 1 intC B l) :
    FnT Try.prog 68 #[seasonV A0 A1 A2 A3 c0 c1 c2 c3 s, .slice B l.length cB] h (fun v h' => SeasonS h' (withoutS s l) v) := by
  refine call_body Try.func68 rfl Try.ntmps68 rfl ?_
  refine goes_more ?_
  refine goes_norm [_] rfl ?_
  refine xp_seq ?_
  refine xp_region rfl ?_
  refine op_box (v := .agg #[.slice _ _ _, .slice _ _ _, .slice _ _ _, .slice _ _ _]) (cs := [_, _, _, _]) rfl rfl fun b2 hb2 => ?_
  refine wp_norm [_, _] rfl ?_
  refine op_alloc (cs := [_, _, _, _]) rfl rfl fun b4 hb4 => ?_
  refine wp_norm [_, _, _] rfl ?_
  refine xp_seq ?_
  refine xp_region rfl ?_
  refine op_pure (pv_fieldAddr rfl rfl rfl rfl 3 rfl) ?_
  refine op_loadP 1 (v := .slice _ _ _) rfl rfl rfl rfl ?_
  refine op_pure (pv_assign (v := .slice _ _ _) rfl) ?_
  refine xp_seq ?_
  refine xp_region rfl ?_
  refine op_pure (pv_fieldAddr rfl rfl rfl rfl 3 rfl) ?_
  refine op_storeP 1 (v := .slice _ _ _) (vs := [_]) (c' := [_, _, _, _]) rfl rfl rfl rfl rfl rfl rfl rfl rfl ?_
  refine wp_norm [_, _, _] rfl ?_
  refine xp_seq ?_
  refine xp_seq ?_
  refine xp_region rfl ?_
  refine op_pure (pv_assign (v := .int .i64 _) rfl) ?_
  refine xp_block ?_
  refine xp_loopL [6, 7, 8, 12, 13, 14, 15, 16, 17, 18, 19, 20, 21, 22, 23, 24, 25, 26, 27, 28, 29, 30, 31, 32, 33, 34, 35, 36, 37, 38, 39, 40, 41, 42] 3 (α := Nat × Acc) (fun ⟨i, a⟩ => [(6, .int .i64 i)]) (fun ⟨i, a⟩ L => (L.set 1 (some (b2, .cells #[.slice A0 s.heats.length c0, .slice A1 s.damps.length c1, .slice A2 s.joints.length c2, .slice a.A a.n a.c] 26 (0, 0)))).set 0 (a.p)) (fun ⟨i, a⟩ h_i => i ≤ s.reports.length ∧ AccR 56 3 ((keepN l 0 (s.reports.take i)).flatMap seenC) a) (fun ⟨i, a⟩ => s.reports.length - i) ((0, acc0)) ⟨rfl, trivial⟩ (rfl) (⟨Nat.zero_le _, accR0⟩) ?_
  rintro ⟨i, a⟩ T1 h_i E_i J_i
  refine goes_norm [_, _, _] rfl ?_
  obtain ⟨K1, K2⟩ := J_i
  refine xp_seq ?_
  refine xp_seq ?_
  refine xp_region rfl ?_
  refine op_pure (pv_move (v := .int .i64 _) rfl) ?_
  refine op_pure (pv_move (v := .slice _ _ _) rfl) ?_
  refine op_pure (pv_len rfl rfl) ?_
  refine op_pure (pv_of (v := .bool _) rfl) ?_
  refine xp_cond rfl (fun hi => ?_) (fun hi => ?_)
  · skip
    have hil : i < s.reports.length := ltI hi
    have hsn : keepN l 0 (s.reports.take (i + 1)) = keepN l 0 (s.reports.take i) ++ if ((i : Nat) : Int) ∈ l then [] else [s.reports[i]] := by
      rw [take_snoc hil, keepN_snoc, List.length_take, Nat.min_eq_left (by omega), Nat.zero_add]
    refine xp_skip ?_
    refine xp_seq ?_
    refine xp_block ?_
    refine xp_seq ?_
    refine xp_region rfl ?_
    refine op_pure (pv_assign (v := .bool _) rfl) ?_
    refine xp_seq ?_
    refine xp_seq ?_
    refine xp_region rfl ?_
    refine op_pure (pv_assign (v := .int .i64 _) rfl) ?_
    refine xp_block ?_
    refine xp_loopB [7, 8, 18, 19, 20, 21, 22, 23, 24, 25, 26, 27, 28, 29, 30, 31, 32] 3 (α := Nat) (fun k => [(7, .bool (!decide ((i : Int) ∈ l.take k))), (8, .int .i64 k)]) (fun k => _) (fun k h_k => k ≤ l.length) (fun k => l.length - k) (0) ⟨rfl, rfl, trivial⟩ (rfl) (Nat.zero_le _) ?_
    rintro k T2 h_k E_k J_k
    refine goes_norm [_, _, _] rfl ?_
    refine xp_seq ?_
    refine xp_seq ?_
    refine xp_region rfl ?_
    refine op_pure (pv_move (v := .int .i64 _) rfl) ?_
    refine op_pure (pv_move (v := .slice _ _ _) rfl) ?_
    refine op_pure (pv_len rfl rfl) ?_
    refine op_pure (pv_of (v := .bool _) rfl) ?_
    refine xp_cond rfl (fun hk => ?_) (fun hk => ?_)
    · skip
      have hkl : k < l.length := ltI hk
      obtain ⟨g, off, hB, hc⟩ := (RB.ext (Ext.trans E_i E_k)).at (by omega) hkl
      have hne : decide (l[k] = (i : Int)) = (l[k] == (i : Int)) := rfl
      rcases Bool.eq_false_or_eq_true (!decide ((i : Int) ∈ l.take k)) with e | e
      · skip
        refine xp_skip ?_
        refine xp_seq ?_
        refine xp_block ?_
        refine xp_region rfl ?_
        refine op_pure (pv_move (v := .bool _) rfl) ?_
        refine op_pure (pv_move (v := .bool _) rfl) ?_
        refine guard_yes rfl e ?_
        refine op_pure (pv_move (v := .slice _ _ _) rfl) ?_
        refine guard_yes rfl e ?_
        refine op_pure (pv_move (v := .int .i64 _) rfl) ?_
        refine guard_yes rfl e ?_
        refine op_pure (pv_indexE rfl hB rfl rfl rfl (by omega) (by omega)) ?_
        refine guard_yes rfl e ?_
        refine op_load (v := .int .i64 _) rfl rfl ((hc) 0 _ rfl) ?_
        refine guard_yes rfl e ?_
        refine op_pure (pv_move (v := .int .i64 _) rfl) ?_
        refine guard_yes rfl e ?_
        refine op_pure (pv_of (v := .bool _) rfl) ?_
        refine op_pure (pv_pickT rfl e (v := .bool _) rfl) ?_
        refine op_pure (pv_assign (v := .bool _) rfl) ?_
        refine xp_region rfl ?_
        refine op_pure (pv_move (v := .int .i64 _) rfl) ?_
        refine op_pure (pv_arith rfl (by omega)) ?_
        refine op_pure (pv_assign (v := .int .i64 _) rfl) ?_
        refine ⟨k + 1, ⟨(by rw [takeMem hkl, Bool.not_or, e]; rfl), rfl, trivial⟩, rfl, rfl, E_k, fun h3 E3 => hkl, by first | omega | (dsimp only; omega), ?_⟩
        repeat (first | exact off_base _ _ _ | refine off_upd (by decide) ?_ | refine off_updL rfl ?_ | refine off_mix rfl ?_)
      · skip
        refine xp_skip ?_
        refine xp_seq ?_
        refine xp_block ?_
        refine xp_region rfl ?_
        refine op_pure (pv_move (v := .bool _) rfl) ?_
        refine op_pure (pv_move (v := .bool _) rfl) ?_
        refine guard_no rfl e ?_
        refine guard_no rfl e ?_
        refine guard_no rfl e ?_
        refine guard_no rfl e ?_
        refine guard_no rfl e ?_
        refine guard_no rfl e ?_
        refine op_pure (pv_pickF rfl e (v := .bool _) rfl) ?_
        refine op_pure (pv_assign (v := .bool _) rfl) ?_
        refine xp_region rfl ?_
        refine op_pure (pv_move (v := .int .i64 _) rfl) ?_
        refine op_pure (pv_arith rfl (by omega)) ?_
        refine op_pure (pv_assign (v := .int .i64 _) rfl) ?_
        refine ⟨k + 1, ⟨(by rw [takeMem hkl, Bool.not_or, e]; rfl), rfl, trivial⟩, rfl, rfl, E_k, fun h3 E3 => hkl, by first | omega | (dsimp only; omega), ?_⟩
        repeat (first | exact off_base _ _ _ | refine off_upd (by decide) ?_ | refine off_updL rfl ?_ | refine off_mix rfl ?_)
    · skip
      have hke : k = l.length := by have := geI hk; omega
      subst hke
      rw [List.take_length]
      refine xp_exit ?_
      refine xp_seq ?_
      refine xp_region rfl ?_
      refine op_pure (pv_move (v := .bool _) rfl) ?_
      refine xp_cond rfl (fun hin => ?_) (fun hin => ?_)
      · skip
        have hin' : ¬ ((i : Nat) : Int) ∈ l := by simpa using hin
        obtain ⟨g, off, hA, hcs⟩ := (R.reports.ext (Ext.trans E_i E_k)).at (by omega) hil
        refine xp_dw [false, false, true] rfl rfl rfl ?_
        refine dw_pure (i := 0) rfl (by decide +kernel) (pv_fieldAddr rfl rfl rfl rfl 3 rfl) ?_
        refine dw_load (i := 1) rfl (by decide +kernel) ?_
        refine op_loadP 1 (v := .slice _ _ _) rfl rfl rfl rfl ?_
        refine dw_pure (i := 2) rfl (by decide +kernel) (pv_move (v := .slice _ _ _) rfl) ?_
        refine dw_pure (i := 3) rfl (by decide +kernel) (pv_move (v := .int .i64 _) rfl) ?_
        refine dw_pure (i := 4) rfl (by decide +kernel) (pv_indexE rfl hA rfl rfl rfl (by omega) (by omega)) ?_
        refine dw_load (i := 5) rfl (by decide +kernel) ?_
        refine op_loadA rfl rfl rfl rfl (hcs) ?_
        refine dw_eff (i := 6) rfl (by decide +kernel) ?_
        refine op_buildSlice (zc := [_, _, _]) (vs := [(0, .agg #[.int .i64 _, .int .i64 _, .bool _])]) (cs := [_, _, _]) rfl rfl rfl rfl rfl rfl rfl fun b40 hb40 => ?_
        refine ⟨ext_newM hb40 _, ?_⟩
        refine dw_norm [_, _, _, _] rfl ?_
        -- L = aR b2 b4 b40
        refine dw_last (i := 7) rfl (by decide +kernel) (by decide +kernel) ?_
        refine op_appendR 0 K2 rfl rfl rfl (fun V => rdP V (i := 3) rfl) rfl rfl rfl rfl rfl rfl rfl rfl rfl (by omega) rfl (by rw [flat_len (m := 3) (fun _ _ => rfl)]; have := keepN_len l (s.reports.take i) 0; simp at this ⊢; omega) fun a2 h3a E3a ha2 => ?_
        refine dw_norm [_, _, _, _] rfl ?_
        refine dw_pure (i := 8) rfl (by decide +kernel) (pv_fieldAddr rfl rfl rfl rfl 3 rfl) ?_
        refine dw_last (i := 9) rfl (by decide +kernel) (by decide +kernel) ?_
        refine op_storeP 1 (v := .slice _ _ _) (vs := [_]) (c' := [_, _, _, _]) rfl rfl rfl rfl rfl rfl rfl rfl rfl ?_
        refine dw_norm [_, _, _, _] rfl ?_
        refine dw_end rfl ?_
        refine xp_region rfl ?_
        refine op_pure (pv_move (v := .int .i64 _) rfl) ?_
        refine op_pure (pv_arith rfl (by omega)) ?_
        refine op_pure (pv_assign (v := .int .i64 _) rfl) ?_
        refine ⟨(i + 1, a2), ⟨rfl, trivial⟩, rfl, rfl, (Ext.trans (Ext.trans E_i E_k) E3a), fun h3 E3 => ⟨hil, by rw [hsn, if_neg hin', List.flatMap_append]; exact ha2⟩, by first | omega | (dsimp only; omega), ?_⟩
        repeat (first | exact off_base _ _ _ | refine off_upd (by decide) ?_ | refine off_updL rfl ?_ | refine off_mix rfl ?_)
      · skip
        have hin' : ((i : Nat) : Int) ∈ l := by simpa using hin
        refine xp_skip ?_
        refine xp_region rfl ?_
        refine op_pure (pv_move (v := .int .i64 _) rfl) ?_
        refine op_pure (pv_arith rfl (by omega)) ?_
        refine op_pure (pv_assign (v := .int .i64 _) rfl) ?_
        refine ⟨(i + 1, a), ⟨rfl, trivial⟩, rfl, rfl, (Ext.trans E_i E_k), fun h3 E3 => ⟨hil, by rw [hsn, if_pos hin', List.append_nil]; exact K2⟩, by first | omega | (dsimp only; omega), ?_⟩
        repeat (first | exact off_base _ _ _ | refine off_upd (by decide) ?_ | refine off_updL rfl ?_ | refine off_mix rfl ?_)
  · skip
    have hie : i = s.reports.length := by have := geI hi; omega
    subst hie
    rw [List.take_length] at K2
    obtain ⟨p7, A7, n7, c7⟩ := a
    obtain rfl : n7 = (withoutS s l).reports.length := by have := AccR.len K2; rw [flat_len (m := 3) (fun _ _ => rfl)] at this; simp [withoutS] at this ⊢; omega
    dsimp only
    refine goes_pubO 0 rfl ?_
    intro g7 G7 P7
    refine goes_norm [_, _, _] rfl ?_
    have RW : SeasonR g7 A0 A1 A2 A7 (withoutS s l) := ⟨R.heats.ext (Ext.trans E_i G7), R.damps.ext (Ext.trans E_i G7), R.joints.ext (Ext.trans E_i G7), ⟨fun _ _ => rfl, AccR.rd K2 P7⟩⟩
    refine xp_exit ?_
    refine xp_seq ?_
    refine xp_region rfl ?_
    refine op_loadPA 1 (vs := [.slice _ _ _, .slice _ _ _, .slice _ _ _, .slice _ _ _]) rfl rfl rfl rfl rfl ?_
    refine op_storeP 2 (v := .agg #[.slice _ _ _, .slice _ _ _, .slice _ _ _, .slice _ _ _]) (vs := [_, _, _, _]) (c' := [_, _, _, _]) rfl rfl rfl rfl rfl rfl rfl rfl rfl ?_
    refine wp_norm [_, _, _] rfl ?_
    refine xp_ret ?_
    refine res_list (vs := [_]) Try.results68 ⟨resV_agg 2 rfl rfl rfl rfl rfl (vs := [.slice _ _ _, .slice _ _ _, .slice _ _ _, .slice _ _ _]) rfl, trivial⟩ fun V => ?_
    exact ⟨(Ext.trans (Ext.trans E_i G7) (ext_wl V)), A0, A1, A2, A7, c0, c1, c2, c7, rfl, RW.ext (ext_wl V)⟩
end Go.Proofs.Ytndfkbapoinmkaa
/- Plain: what truly was so is never denied. Conditions: as each theorem states. -/
namespace Go.Wx
open Go Go.HL
theorem mem_le_last {m : Nat} {z : Int} (h : z ∈ listM m) : z ≤ (listM m).getLastD 0 := by
  obtain ⟨i, rfl, hi, hb⟩ := listN_mem h
  have h1 := last_le (m := m) (m' := 2 ^ i) (fun w' hw' hb' => by
    rw [Nat.testBit_two_pow] at hb'
    have : i = w' := by simpa using hb'
    subst this
    exact ⟨i, Nat.le_refl _, hi, hb⟩)
  have h2 : listM (2 ^ i) ≠ [] := List.ne_nil_of_mem (mem_listN.2 ⟨i, rfl, hi, by rw [Nat.testBit_two_pow]; simp⟩)
  have h3 := h1 h2
  have h4 : (listM (2 ^ i)).getLastD 0 = (i : Int) := by
    have hl : (listM (2 ^ i)).getLastD 0 ∈ listM (2 ^ i) := by
      rw [List.getLastD_eq_getLast?, List.getLast?_eq_some_getLast h2]
      exact List.getLast_mem h2
    obtain ⟨k, e, _, hk⟩ := listN_mem hl
    rw [Nat.testBit_two_pow] at hk
    have : i = k := by simpa using hk
    rw [e, this]
  omega
theorem head_le_mem {m : Nat} {z : Int} (h : z ∈ listM m) : (listM m).headD 0 ≤ z := by
  have hp : (listM m).Pairwise (· < ·) := listN_pair m 7
  cases e : listM m with
  | nil => rw [e] at h; cases h
  | cons y l =>
    rw [e] at h hp
    rw [List.headD_cons]
    rcases List.mem_cons.1 h with rfl | h
    · exact Int.le_refl _
    · have := (List.pairwise_cons.1 hp).1 _ h; omega
section
variable {weeks joints reports : Nat} {s : Season} {ht dt fs : List Int} (T : SeasonT weeks joints reports s ht dt fs) (hw : weeks ≤ 6) (h3 : joints ≤ 3)
include T hw h3
/-- The true weeks are a fate that there can be. -/
theorem true_fate : ∃ F, F ∈ allFates s ∧ ∀ i, i < s.joints.length → ∃ f : Nat, fs[i]? = some (f : Int) ∧ f ≤ s.heats.length ∧ (F.at i).testBit f = true := by
  refine ⟨joinF (fateOf s 1 (skyOf ht)) (fateOf s 2 (skyOf dt)), mem_allFates.2 ⟨_, mem_fatesM.2 ⟨_, ?_, ?_, rfl⟩, _, mem_fatesM.2 ⟨_, ?_, ?_, rfl⟩, rfl⟩, fun i hi => ?_⟩
  · have := true_sky T hw 1; rwa [if_pos rfl] at this
  · have := true_ok T hw (n := 1) (.inl rfl); rwa [if_pos rfl] at this
  · have := true_sky T hw 2; rwa [if_neg (by decide)] at this
  · have := true_ok T hw (n := 2) (.inr rfl); rwa [if_neg (by decide)] at this
  · have hj : s.joints[i]? = some s.joints[i] := List.getElem?_eq_getElem hi
    have hl' : i < fs.length := by rw [T.js.len]; exact hi
    have hf : fs[i]? = some fs[i] := List.getElem?_eq_getElem hl'
    have hk := kind_T T hw hj
    obtain ⟨y, hy, e⟩ := true_surv T hw hk hj rfl hf
    have hi3 : i < 3 := by have := T.jl; omega
    refine ⟨y.week, by rw [hf, e], surv_week hy, ?_⟩
    rw [joinF_at, Fate.of_at _ _ _ _ hi3, Fate.of_at _ _ _ _ hi3, Nat.testBit_or, Bool.or_eq_true]
    unfold fateM
    rcases hk with hk | hk
    · left
      rw [hk, if_pos rfl] at hy
      exact (maskM_bit _ _).2 ⟨y, hy, rfl⟩
    · right
      rw [hk, if_neg (by decide)] at hy
      exact (maskM_bit _ _).2 ⟨y, hy, rfl⟩
end
/-- How many joints truly are sound. -/
def soundT (fs : List Int) (w : Int) : Nat → Nat
  | 0 => 0
  | k + 1 => soundT fs w k + if fs.getD k 0 > w then 1 else 0
theorem soundT_le (fs : List Int) (w : Int) : ∀ k, soundT fs w k ≤ k
  | 0 => Nat.le_refl _
  | k + 1 => by have := soundT_le fs w k; rw [soundT]; split <;> omega
theorem upto_some {m w f : Nat} (hb : m.testBit f = true) (h : f ≤ w) : uptoM m w ≠ 0 := by
  intro e
  have := uptoM_bit m w f
  rw [e, hb] at this
  simp at this
  omega
theorem upto_less {m w f : Nat} (hb : m.testBit f = true) (h : w < f) : m ≠ uptoM m w := by
  intro e
  have := uptoM_bit m w f
  rw [← e, hb] at this
  simp at this
  omega
theorem sound_between {fs : List Int} {F : Fate} {w : Nat} : ∀ n, (∀ i, i < n → ∃ f : Nat, fs[i]? = some (f : Int) ∧ (F.at i).testBit f = true) → mustN F w n ≤ soundT fs w n ∧ soundT fs w n ≤ canN F w n
  | 0, _ => ⟨Nat.le_refl _, Nat.le_refl _⟩
  | n + 1, h => by
    obtain ⟨h1, h2⟩ := sound_between (w := w) n fun i hi => h i (by omega)
    obtain ⟨f, e, hb⟩ := h n (by omega)
    have hg : fs.getD n 0 = (f : Int) := by rw [List.getD_eq_getElem?_getD, e]; rfl
    rw [mustN, canN, soundT, hg]
    by_cases hf : w < f
    · rw [if_pos (by omega : (f : Int) > w), if_pos (upto_less hb hf)]
      constructor
      · split <;> omega
      · omega
    · rw [if_neg (by omega : ¬ (f : Int) > w), if_neg (upto_some hb (by omega))]
      constructor
      · omega
      · split <;> omega
theorem foldl_minI (g : Sky → Int) : ∀ (l : List Sky) (m : Int), l.foldl (fun m x => min m (g x)) m ≤ m ∧ ∀ x ∈ l, l.foldl (fun m x => min m (g x)) m ≤ g x
  | [], m => ⟨Int.le_refl _, fun _ h => (by cases h)⟩
  | y :: l, m => by
    obtain ⟨h1, h2⟩ := foldl_minI g l (min m (g y))
    rw [List.foldl_cons]
    refine ⟨by omega, fun x hx => ?_⟩
    rcases List.mem_cons.1 hx with rfl | hx
    · omega
    · exact h2 x hx
theorem foldl_maxI (g : Sky → Int) : ∀ (l : List Sky) (m : Int), m ≤ l.foldl (fun m x => max m (g x)) m ∧ ∀ x ∈ l, g x ≤ l.foldl (fun m x => max m (g x)) m
  | [], m => ⟨Int.le_refl _, fun _ h => (by cases h)⟩
  | y :: l, m => by
    obtain ⟨h1, h2⟩ := foldl_maxI g l (max m (g y))
    rw [List.foldl_cons]
    refine ⟨by omega, fun x hx => ?_⟩
    rcases List.mem_cons.1 hx with rfl | hx
    · omega
    · exact h2 x hx
theorem weekR_has {l : List Sky} {x : Sky} (h : x ∈ l) (w : Nat) : (weekR l w).mn ≤ x.at w ∧ x.at w ≤ (weekR l w).mx := by
  unfold weekR loK hiK
  rw [List.take_length]
  exact ⟨(foldl_minI _ l _).2 x h, (foldl_maxI _ l _).2 x h⟩
/-- Whether a joint truly is the first one to fail. -/
def isT (fs : List Int) (H : Int) (j : Nat) : Nat → Bool
  | 0 => decide (fs.getD j 0 ≤ H - 1)
  | k + 1 => isT fs H j k && decide (fs.getD k 0 ≥ fs.getD j 0)
theorem isT_yes {fs : List Int} {H : Int} {j : Nat} : ∀ {n}, isT fs H j n = true → fs.getD j 0 ≤ H - 1 ∧ ∀ k, k < n → fs.getD k 0 ≥ fs.getD j 0
  | 0, h => ⟨by simpa [isT] using h, fun k hk => absurd hk (Nat.not_lt_zero k)⟩
  | n + 1, h => by
    rw [isT, Bool.and_eq_true, decide_eq_true_eq] at h
    obtain ⟨h1, h2⟩ := isT_yes h.1
    refine ⟨h1, fun k hk => ?_⟩
    by_cases e : k = n
    · subst e; exact h.2
    · exact h2 k (by omega)
theorem isT_no {fs : List Int} {H : Int} {j : Nat} : ∀ {n}, isT fs H j n = false → fs.getD j 0 > H - 1 ∨ ∃ k, k < n ∧ fs.getD k 0 < fs.getD j 0
  | 0, h => by left; simp only [isT, decide_eq_false_iff_not] at h; omega
  | n + 1, h => by
    rw [isT, Bool.and_eq_false_iff] at h
    rcases h with h | h
    · rcases isT_no h with h | ⟨k, h1, h2⟩
      · exact .inl h
      · exact .inr ⟨k, by omega, h2⟩
    · rw [decide_eq_false_iff_not] at h
      exact .inr ⟨n, by omega, by omega⟩
theorem latP_ge {s : Season} {F : Fate} {j : Nat} {z : Int} (hz : z ≤ s.heats.length) : ∀ n, (∀ i, i < n → i ≠ j → z ≤ (listM (F.at i)).getLastD 0) → z ≤ latP s F j n
  | 0, _ => hz
  | n + 1, h => by
    have ih := latP_ge hz n fun i hi hij => h i (by omega) hij
    rw [latP]
    split
    · exact ih
    · rename_i hn
      have := h n (by omega) hn
      omega
theorem soonP_le {s : Season} {F : Fate} {j : Nat} : ∀ n i, i < n → i ≠ j → soonP s F j n ≤ (listM (F.at i)).headD 0
  | 0, i, h, _ => absurd h (Nat.not_lt_zero i)
  | n + 1, i, h, hij => by
    rw [soonP]
    by_cases e : i = n
    · subst e
      rw [if_neg hij]
      omega
    · have := soonP_le (s := s) (F := F) (j := j) n i (by omega) hij
      split
      · exact this
      · omega
theorem first_true {s : Season} (h6 : s.heats.length ≤ 6) {fs : List Int} {F : Fate} (hF : F ∈ allFates s) (h : ∀ i, i < s.joints.length → ∃ f : Nat, fs[i]? = some (f : Int) ∧ f ≤ s.heats.length ∧ (F.at i).testBit f = true) {j : Nat} (hj : j < s.joints.length) :
    (isT fs s.heats.length j s.joints.length = true → (allFates s).any (isF s j) = true) ∧ (isT fs s.heats.length j s.joints.length = false → (allFates s).any (noF s j) = true) := by
  have val : ∀ i, i < s.joints.length → fs.getD i 0 ∈ listM (F.at i) ∧ 0 ≤ fs.getD i 0 ∧ fs.getD i 0 ≤ s.heats.length := by
    intro i hi
    obtain ⟨f, e, hf, hb⟩ := h i hi
    have hg : fs.getD i 0 = (f : Int) := by rw [List.getD_eq_getElem?_getD, e]; rfl
    rw [hg]
    exact ⟨mem_listN.2 ⟨f, rfl, by omega, hb⟩, by omega, by omega⟩
  obtain ⟨v1, v2, v3⟩ := val j hj
  constructor
  · intro ht
    obtain ⟨a1, a2⟩ := isT_yes ht
    rw [List.any_eq_true]
    refine ⟨F, hF, ?_⟩
    unfold isF
    rw [List.any_eq_true]
    refine ⟨_, v1, ?_⟩
    unfold isW
    rw [Bool.and_eq_true, decide_eq_true_eq, decide_eq_true_eq]
    refine ⟨a1, latP_ge v3 _ fun i hi _ => ?_⟩
    have := a2 i hi
    have := mem_le_last (val i hi).1
    omega
  · intro ht
    rw [List.any_eq_true]
    refine ⟨F, hF, ?_⟩
    unfold noF
    rw [List.any_eq_true]
    refine ⟨_, v1, ?_⟩
    unfold noW
    rw [Bool.or_eq_true, decide_eq_true_eq, decide_eq_true_eq]
    rcases isT_no ht with a | ⟨k, hk, a⟩
    · exact .inl a
    · right
      have hkj : k ≠ j := fun e => by subst e; omega
      have h1 := soonP_le (s := s) (F := F) (j := j) s.joints.length k hk hkj
      have h2 := head_le_mem (val k hk).1
      omega
theorem lookAt_low {d : Int} : ∀ (l : List Int) (e : Int), (∀ i ∈ l, e ≤ i) → lookAt e d l = e
  | [], e, _ => rfl
  | i :: l, e, h => by
    rw [show lookAt e d (i :: l) = lookAt (if d ≤ i then min e i else e) d l from rfl]
    have h1 := h i (List.mem_cons_self ..)
    have : (if d ≤ i then min e i else e) = e := by split <;> omega
    rw [this]
    exact lookAt_low l e fun k hk => h k (List.mem_cons_of_mem _ hk)
/-- The week in which a failure is seen, looked for from the end. -/
def seenK (l : List Int) (d n : Int) : Nat → Int
  | 0 => n
  | k + 1 => if l.getD (l.length - (k + 1)) 0 ≥ d then l.getD (l.length - (k + 1)) 0 else seenK l d n k
theorem seenK_eq {l : List Int} (hp : l.Pairwise (· < ·)) {n : Int} (hn : ∀ i ∈ l, i < n) (d : Int) : ∀ k, k ≤ l.length → seenK l d n k = lookAt n d (l.drop (l.length - k))
  | 0, _ => by rw [Nat.sub_zero, List.drop_length]; rfl
  | k + 1, hk => by
    have hi : l.length - (k + 1) < l.length := by omega
    have ih := seenK_eq hp hn d k (by omega)
    have hg : l.getD (l.length - (k + 1)) 0 = l[l.length - (k + 1)] := by rw [List.getD_eq_getElem?_getD, List.getElem?_eq_getElem hi]; rfl
    rw [seenK, hg, List.drop_eq_getElem_cons hi, show l.length - (k + 1) + 1 = l.length - k from by omega]
    rw [show lookAt n d (l[l.length - (k + 1)] :: l.drop (l.length - k)) = lookAt (if d ≤ l[l.length - (k + 1)] then min n l[l.length - (k + 1)] else n) d (l.drop (l.length - k)) from rfl]
    have h1 := hn _ (List.getElem_mem hi)
    by_cases hd : d ≤ l[l.length - (k + 1)]
    · rw [if_pos hd, if_pos hd, lookAt_low]
      · omega
      · intro i hi2
        obtain ⟨q, hq⟩ := List.mem_iff_getElem?.1 hi2
        rw [List.getElem?_drop] at hq
        obtain ⟨hql, hqe⟩ := List.getElem?_eq_some_iff.1 hq
        have := List.pairwise_iff_getElem.1 hp (l.length - (k + 1)) (l.length - k + q) hi hql (by omega)
        omega
    · rw [if_neg (by omega), if_neg hd, ih]
theorem unseenOf_ge {n d : Int} {ins : List Int} : ∀ (ds : List Int), d ∈ ds → lookAt n d ins - d ≤ unseenOf n ds ins := by
  have mono : ∀ (ds : List Int) (a : Int), a ≤ ds.foldl (fun a d => max a (lookAt n d ins - d)) a := by
    intro ds
    induction ds with
    | nil => intro a; exact Int.le_refl _
    | cons x l ih => intro a; rw [List.foldl_cons]; have := ih (max a (lookAt n x ins - x)); omega
  have key : ∀ (ds : List Int) (a : Int), d ∈ ds → lookAt n d ins - d ≤ ds.foldl (fun a d => max a (lookAt n d ins - d)) a := by
    intro ds
    induction ds with
    | nil => intro a h; cases h
    | cons x l ih =>
      intro a h
      rw [List.foldl_cons]
      rcases List.mem_cons.1 h with rfl | h
      · have := mono l (max a (lookAt n d ins - d)); omega
      · exact ih _ h
  exact fun ds h => key ds 0 h
theorem danger_bit {s : Season} : ∀ {n i w : Nat}, i < n → (failsM s i).testBit w = true → (dangerM s n).testBit w = true
  | 0, i, w, h, _ => absurd h (Nat.not_lt_zero i)
  | n + 1, i, w, h, hb => by
    rw [dangerM, Nat.testBit_or, Bool.or_eq_true]
    by_cases e : i = n
    · subst e; exact .inr hb
    · exact .inl (danger_bit (by omega) hb)
theorem failing_has {s : Season} (h6 : s.heats.length ≤ 6) {i f : Nat} (hi : i < s.joints.length) (hb : (failsM s i).testBit f = true) (hf : f ≤ s.heats.length - 1) : ((f : Nat) : Int) ∈ listM (failingM s) := by
  refine mem_listN.2 ⟨f, rfl, by omega, ?_⟩
  unfold failingM
  rw [uptoM_bit, danger_bit hi hb, decide_eq_true hf]
  rfl
theorem keepN_nil : ∀ (a : List Seen) (i : Nat), keepN [] i a = a
  | [], i => rfl
  | r :: a, i => by rw [keepN, if_neg (by simp), keepN_nil a]
theorem wrong_none {s : Season} (c : CheckS s) (m : mayM s = true) : wrongL s = [] := by
  have e0 : withoutS s [] = s := by unfold withoutS; rw [keepN_nil]
  have h1 : fewestP s.reports.length (fun l => mayM (withoutS s l)) 1 = some [] := by
    rw [fewestP_step]
    show ((fewestP _ _ 0).or ([[]].find? _)) = _
    rw [List.find?_cons]
    simp [fewestP, e0, m]
  have h2 := fewestP_mono h1 s.reports.length
  rw [wrongL, if_pos c.ok, show s.reports.length + 1 = 1 + s.reports.length from by omega, h2]
  rfl
end Go.Wx
/- Walks: the law on what truly is so. Conditions: as each theorem states. -/
namespace Go.Proofs.Ytndfkbapoinmkaa
open Go Go.HL Go.Proofs Go.Wx Go.RowKit
set_option maxRecDepth 100000
theorem right_verdict {a b is : Bool} (h1 : is = true → a = true) (h2 : is = false → b = true) : rightM (verdictM a b) is = true := by
  cases a <;> cases b <;> cases is <;> simp_all [verdictM, rightM]
theorem looks_asc {n : Nat} {l : List Int} (h1 : ∀ z ∈ l, 0 ≤ z ∧ z < n) (h2 : l.Pairwise (· < ·)) : looksM n l = 0 := by
  unfold looksM
  refine firstErr_all fun i hi => ?_
  have hil : i < l.length := by simpa using hi
  have hgd : l.getD i 0 = l[i] := by rw [List.getD_eq_getElem?_getD, List.getElem?_eq_getElem hil]; rfl
  have hb := h1 _ (List.getElem_mem hil)
  unfold lookE
  rw [if_neg (by unfold inM; rw [hgd]; simp; omega), if_neg]
  rintro ⟨h0, hle⟩
  have hi1 : i - 1 < l.length := by omega
  have hgd1 : l.getD (i - 1) 0 = l[i - 1] := by rw [List.getD_eq_getElem?_getD, List.getElem?_eq_getElem hi1]; rfl
  rw [hgd, hgd1] at hle
  have := (List.pairwise_iff_getElem.1 h2) (i - 1) i hi1 hil (by omega)
  omega
theorem weather_of {s : Season} (c : CheckS s) (m : mayM s = true) {k : Int} (hk : k = 1 ∨ k = 2) : weatherE s k = 0 ∧ weatherL s k = (List.range s.heats.length).map (weekR (skM s k)) := by
  have e : weatherE s k = 0 := known_of c m (by intro x hx; rw [List.mem_singleton.1 hx]; unfold kindE inM; rw [if_pos (by simp; omega)])
  exact ⟨e, by unfold weatherL; rw [if_pos e]⟩
theorem first_of {s : Season} (c : CheckS s) (m : mayM s = true) : firstE s = 0 ∧ firstL s = (List.range s.joints.length).map (firstM s) := by
  have e : firstE s = 0 := known_of c m (by intro x hx; cases hx)
  exact ⟨e, by unfold firstL; rw [if_pos e]⟩
theorem sound_of {s : Season} (c : CheckS s) (m : mayM s = true) {w : Nat} (hw : w < s.heats.length) : soundE s w = 0 ∧ soundV s w = ⟨soundLo s w (allFates s), soundHi s w (allFates s)⟩ := by
  have e : soundE s w = 0 := known_of c m (by intro x hx; rw [List.mem_singleton.1 hx]; unfold isWeekM inM; rw [if_pos (by simp; omega)])
  exact ⟨e, by unfold soundV; rw [if_pos e, Int.toNat_natCast]⟩
theorem unseen_ofA {s : Season} (c : CheckS s) (m : mayM s = true) {l : List Int} (h1 : ∀ z ∈ l, 0 ≤ z ∧ z < s.heats.length) (h2 : l.Pairwise (· < ·)) : unseenE s l = 0 ∧ unseenV s l = unseenOf s.heats.length (listM (failingM s)) l := by
  have e : unseenE s l = 0 := known_of c m (by intro x hx; rw [List.mem_singleton.1 hx]; exact looks_asc h1 h2)
  exact ⟨e, by unfold unseenV; rw [if_pos e]⟩
set_option maxHeartbeats 16000000 in
theorem true_calls (w : World) (l : List Int) (hl : l.length < 2 ^ 63) (A : Option Addr) (c : Nat) (R : Row (absH w.heap) 1 intC A l) : Calls Try.prog 17 #[.slice A l.length c] w (fun e w' => e = .returned (.bool true) ∧ Below w.heap.size w w') := by
  refine calls_body Try.func17 rfl Try.ntmps17 rfl Try.results17 rfl fun h hh => ?_
  rw [← hh] at R
  refine xp_seq ?_
  refine xp_region rfl ?_
  refine op_pure (pv_assign (v := .bool _) rfl) ?_
  refine xp_seq ?_
  refine xp_region rfl ?_
  refine op_pure (pv_move (v := .slice _ _ _) rfl) ?_
  refine op_fnMM [] [] [] rfl rfl rfl ((NewPot_ok l hl A c h R)) ?_
  rintro _ h1 _ E1 ⟨b, x, rfl, rfl⟩
  refine wp_norm [_] rfl ?_
  refine op_pure (pv_assign (v := .pointer _) rfl) ?_
  refine xp_seq ?_
  refine xp_region rfl ?_
  refine op_pure (pv_move (v := .pointer _) rfl) ?_
  refine op_fnMM [] [_] [] (vs := _) rfl rfl rfl ((SeasonOf_ok b x 5 3 4 (by omega) (by omega) (by omega) (by omega) h1)) ?_
  rintro _ h2 _ E2 ⟨x2, s, ht, dt, fs, _, _, rfl, rfl, ⟨A0, A1, A2, A3, c0, c1, c2, c3, rfl, RS⟩, T, HA, hc, DA, dc, FA, fc, rfl, R1, R2, R3⟩
  refine wp_norm [_] rfl ?_
  have C : CheckS s := SeasonT.checkS T (by omega) (by omega) (by omega)
  have Sm : Small s := small_of C
  have hmay : mayM s = true := may_T T (by omega)
  have h6 := C.w6
  have h1w := C.w1
  have j3 := C.j3
  have hfl : fs.length = s.joints.length := T.js.len
  have hhl : ht.length = s.heats.length := T.hn.len.symm
  have hdl : dt.length = s.heats.length := by rw [T.dl, hhl]
  obtain ⟨F, hF, hfate⟩ := true_fate T (by omega) (by omega)
  have sk1 : skyOf ht ∈ skM s 1 := mem_skM.2 ⟨by have := true_sky T (by omega) 1; rwa [if_pos rfl] at this, by have := true_ok T (by omega) (n := 1) (.inl rfl); rwa [if_pos rfl] at this⟩
  have sk2 : skyOf dt ∈ skM s 2 := mem_skM.2 ⟨by have := true_sky T (by omega) 2; rwa [if_neg (by decide)] at this, by have := true_ok T (by omega) (n := 2) (.inr rfl); rwa [if_neg (by decide)] at this⟩
  refine op_pure (pv_move (v := .tuple #[.agg #[.slice _ _ _, .slice _ _ _, .slice _ _ _, .slice _ _ _], .agg #[.slice _ _ _, .slice _ _ _, .slice _ _ _]]) rfl) ?_
  refine op_pure (pv_of (v := .agg #[.slice _ _ _, .slice _ _ _, .slice _ _ _, .slice _ _ _]) rfl) ?_
  refine op_pure (pv_of (v := .agg #[.slice _ _ _, .slice _ _ _, .slice _ _ _]) rfl) ?_
  refine op_alloc (cs := [_, _, _, _]) rfl rfl fun b4 hb4 => ?_
  refine wp_norm [_, _] rfl ?_
  refine op_alloc (cs := [_, _, _]) rfl rfl fun b5 hb5 => ?_
  refine wp_norm [_, _, _] rfl ?_
  refine op_storeP 1 (v := .agg #[.slice _ _ _, .slice _ _ _, .slice _ _ _, .slice _ _ _]) (vs := [_, _, _, _]) (c' := [_, _, _, _]) rfl rfl rfl rfl rfl rfl rfl rfl rfl ?_
  refine wp_norm [_, _, _] rfl ?_
  refine op_storeP 2 (v := .agg #[.slice _ _ _, .slice _ _ _, .slice _ _ _]) (vs := [_, _, _]) (c' := [_, _, _]) rfl rfl rfl rfl rfl rfl rfl rfl rfl ?_
  refine wp_norm [_, _, _] rfl ?_
  refine xp_seq ?_
  refine xp_region rfl ?_
  refine op_pure (pv_fieldAddr rfl rfl rfl rfl 0 rfl) ?_
  refine op_loadP 1 (v := .slice _ _ _) rfl rfl rfl rfl ?_
  refine op_pure (pv_len rfl rfl) ?_
  refine op_pure (pv_arith rfl (by omega)) ?_
  refine op_pure (pv_assign (v := .int .i64 _) rfl) ?_
  refine xp_seq ?_
  refine xp_region rfl ?_
  refine op_pure (pv_move (v := .pointer _) rfl) ?_
  refine op_pure (pv_move (v := .int .i64 _) rfl) ?_
  refine op_pure (pv_arith rfl (by omega)) ?_
  rw [show (s.heats.length : Int) - 1 + 1 = (s.heats.length : Int) from by omega]
  refine op_fnMM [] [_] [_, _] (vs := [.pointer _, .int .i64 _]) rfl rfl rfl ((Pick_ok b x2 s.heats.length (by omega) h2)) ?_
  rintro _ h3 _ E3 ⟨x3, lk, rfl, ⟨LA, lc, rfl, LR⟩, lb, la, ll⟩
  refine wp_norm [_, _, _] rfl ?_
  obtain ⟨wx, hwx⟩ : ∃ wx, (List.range s.heats.length).map (weekR (skM s 1)) = wx := ⟨_, rfl⟩
  obtain ⟨wy, hwy⟩ : ∃ wy, (List.range s.heats.length).map (weekR (skM s 2)) = wy := ⟨_, rfl⟩
  obtain ⟨wf, hwf⟩ : ∃ wf, (List.range s.joints.length).map (firstM s) = wf := ⟨_, rfl⟩
  have lwx : wx.length = s.heats.length := by rw [← hwx]; simp
  have lwy : wy.length = s.heats.length := by rw [← hwy]; simp
  have lwf : wf.length = s.joints.length := by rw [← hwf]; simp
  have o1 := weather_of C hmay (k := 1) (.inl rfl)
  have o2 := weather_of C hmay (k := 2) (.inr rfl)
  have o3 := first_of C hmay
  have o4 := wrong_none C hmay
  have o5 := unseen_ofA C hmay lb la
  obtain ⟨un, hun⟩ : ∃ un, unseenOf s.heats.length (listM (failingM s)) lk = un := ⟨_, rfl⟩
  rw [hwx] at o1
  rw [hwy] at o2
  rw [hwf] at o3
  rw [hun] at o5
  refine op_pure (pv_assign (v := .slice _ _ _) rfl) ?_
  refine xp_seq ?_
  refine xp_region rfl ?_
  refine op_loadPA 1 (vs := [.slice _ _ _, .slice _ _ _, .slice _ _ _, .slice _ _ _]) rfl rfl rfl rfl rfl ?_
  have H1 := Weather_ok s Sm 1 A0 A1 A2 A3 c0 c1 c2 c3 h3 (RS.ext E3)
  rw [o1.1, o1.2] at H1
  refine op_fn (caps := []) (vs := [.agg #[.slice _ _ _, .slice _ _ _, .slice _ _ _, .slice _ _ _], .int .i64 _]) rfl rfl rfl (H1) ?_
  rintro _ h4 E4 ⟨_, rfl, XA, xc, rfl, XR⟩
  refine op_pure (pv_move (v := .tuple #[.slice _ _ _, .int .i64 _]) rfl) ?_
  refine op_pure (pv_of (v := .slice _ _ _) rfl) ?_
  refine op_pure (pv_of (v := .int .i64 _) rfl) ?_
  refine op_pure (pv_assign (v := .slice _ _ _) rfl) ?_
  refine op_pure (pv_assign (v := .int .i64 _) rfl) ?_
  refine xp_seq ?_
  refine xp_region rfl ?_
  refine op_loadPA 1 (vs := [.slice _ _ _, .slice _ _ _, .slice _ _ _, .slice _ _ _]) rfl rfl rfl rfl rfl ?_
  have H2 := Weather_ok s Sm 2 A0 A1 A2 A3 c0 c1 c2 c3 h4 (RS.ext (Ext.trans E3 E4))
  rw [o2.1, o2.2] at H2
  refine op_fn (caps := []) (vs := [.agg #[.slice _ _ _, .slice _ _ _, .slice _ _ _, .slice _ _ _], .int .i64 _]) rfl rfl rfl (H2) ?_
  rintro _ h5 E5 ⟨_, rfl, YA, yc, rfl, YR⟩
  refine op_pure (pv_move (v := .tuple #[.slice _ _ _, .int .i64 _]) rfl) ?_
  refine op_pure (pv_of (v := .slice _ _ _) rfl) ?_
  refine op_pure (pv_of (v := .int .i64 _) rfl) ?_
  refine op_pure (pv_assign (v := .slice _ _ _) rfl) ?_
  refine op_pure (pv_assign (v := .int .i64 _) rfl) ?_
  refine xp_seq ?_
  refine xp_region rfl ?_
  refine op_loadPA 1 (vs := [.slice _ _ _, .slice _ _ _, .slice _ _ _, .slice _ _ _]) rfl rfl rfl rfl rfl ?_
  have H3 := First_ok s Sm A0 A1 A2 A3 c0 c1 c2 c3 h5 (RS.ext (Ext.trans (Ext.trans E3 E4) E5))
  rw [o3.1, o3.2] at H3
  refine op_fn (caps := []) (vs := [.agg #[.slice _ _ _, .slice _ _ _, .slice _ _ _, .slice _ _ _]]) rfl rfl rfl (H3) ?_
  rintro _ h7 E7 ⟨_, rfl, GA, gc, rfl, GR⟩
  refine op_pure (pv_move (v := .tuple #[.slice _ _ _, .int .i64 _]) rfl) ?_
  refine op_pure (pv_of (v := .slice _ _ _) rfl) ?_
  refine op_pure (pv_of (v := .int .i64 _) rfl) ?_
  refine op_pure (pv_assign (v := .slice _ _ _) rfl) ?_
  refine op_pure (pv_assign (v := .int .i64 _) rfl) ?_
  refine xp_seq ?_
  refine xp_region rfl ?_
  refine op_loadPA 1 (vs := [.slice _ _ _, .slice _ _ _, .slice _ _ _, .slice _ _ _]) rfl rfl rfl rfl rfl ?_
  have H4 := Wrong_ok s Sm A0 A1 A2 A3 c0 c1 c2 c3 h7 (RS.ext (Ext.trans (Ext.trans (Ext.trans E3 E4) E5) E7))
  rw [C.ok, o4] at H4
  refine op_fn (caps := []) (vs := [.agg #[.slice _ _ _, .slice _ _ _, .slice _ _ _, .slice _ _ _]]) rfl rfl rfl (H4) ?_
  rintro _ h8 E8 ⟨_, rfl, WA, wc, rfl, WR⟩
  refine op_pure (pv_move (v := .tuple #[.slice _ _ _, .int .i64 _]) rfl) ?_
  refine op_pure (pv_of (v := .slice _ _ _) rfl) ?_
  refine op_pure (pv_of (v := .int .i64 _) rfl) ?_
  refine op_pure (pv_assign (v := .slice _ _ _) rfl) ?_
  refine op_pure (pv_assign (v := .int .i64 _) rfl) ?_
  refine xp_seq ?_
  refine xp_region rfl ?_
  refine op_loadPA 1 (vs := [.slice _ _ _, .slice _ _ _, .slice _ _ _, .slice _ _ _]) rfl rfl rfl rfl rfl ?_
  refine op_pure (pv_move (v := .slice _ _ _) rfl) ?_
  have H5 := Unseen_ok s Sm lk (by omega) LA lc A0 A1 A2 A3 c0 c1 c2 c3 h8 (RS.ext (Ext.trans (Ext.trans (Ext.trans (Ext.trans E3 E4) E5) E7) E8)) (LR.ext (Ext.trans (Ext.trans (Ext.trans E4 E5) E7) E8))
  rw [o5.1, o5.2] at H5
  refine op_fn (caps := []) (vs := [.agg #[.slice _ _ _, .slice _ _ _, .slice _ _ _, .slice _ _ _], .slice _ _ _]) rfl rfl rfl (H5) ?_
  rintro _ h9 E9 rfl
  have g25 : (!decide ((wx.length : Int) = (s.heats.length : Int) - 1 + 1)) = false := by rw [decide_eq_true (by omega)]; rfl
  have g32 : (!decide ((wy.length : Int) = (s.heats.length : Int) - 1 + 1)) = false := by rw [decide_eq_true (by omega)]; rfl
  have g40 : (!decide ((wf.length : Int) = (s.joints.length : Int))) = false := by rw [decide_eq_true (by omega)]; rfl
  refine op_pure (pv_move (v := .tuple #[.int .i64 _, .int .i64 _]) rfl) ?_
  refine op_pure (pv_of (v := .int .i64 _) rfl) ?_
  refine op_pure (pv_of (v := .int .i64 _) rfl) ?_
  refine op_pure (pv_assign (v := .int .i64 _) rfl) ?_
  refine op_pure (pv_assign (v := .int .i64 _) rfl) ?_
  refine xp_seq ?_
  refine xp_seq ?_
  refine xp_region rfl ?_
  refine op_pure (pv_move (v := .int .i64 _) rfl) ?_
  refine op_pure (pv_of (v := .bool _) rfl) ?_
  refine op_pure (pv_move (v := .bool _) rfl) ?_
  refine guard_yes rfl rfl ?_
  refine op_pure (pv_move (v := .int .i64 _) rfl) ?_
  refine guard_yes rfl rfl ?_
  refine op_pure (pv_of (v := .bool _) rfl) ?_
  refine op_pure (pv_pickF rfl rfl (v := .bool _) rfl) ?_
  refine op_pure (pv_move (v := .bool _) rfl) ?_
  refine guard_yes rfl rfl ?_
  refine op_pure (pv_move (v := .int .i64 _) rfl) ?_
  refine guard_yes rfl rfl ?_
  refine op_pure (pv_of (v := .bool _) rfl) ?_
  refine op_pure (pv_pickF rfl rfl (v := .bool _) rfl) ?_
  refine op_pure (pv_move (v := .bool _) rfl) ?_
  refine guard_yes rfl rfl ?_
  refine op_pure (pv_move (v := .int .i64 _) rfl) ?_
  refine guard_yes rfl rfl ?_
  refine op_pure (pv_of (v := .bool _) rfl) ?_
  refine op_pure (pv_pickF rfl rfl (v := .bool _) rfl) ?_
  refine op_pure (pv_move (v := .bool _) rfl) ?_
  refine guard_yes rfl rfl ?_
  refine op_pure (pv_move (v := .int .i64 _) rfl) ?_
  refine guard_yes rfl rfl ?_
  refine op_pure (pv_of (v := .bool _) rfl) ?_
  refine op_pure (pv_pickF rfl rfl (v := .bool _) rfl) ?_
  refine op_pure (pv_move (v := .bool _) rfl) ?_
  refine guard_yes rfl rfl ?_
  refine op_pure (pv_move (v := .slice _ _ _) rfl) ?_
  refine guard_yes rfl rfl ?_
  refine op_pure (pv_len rfl rfl) ?_
  refine guard_yes rfl rfl ?_
  refine op_pure (pv_move (v := .int .i64 _) rfl) ?_
  refine guard_yes rfl rfl ?_
  refine op_pure (pv_arith rfl (by omega)) ?_
  refine guard_yes rfl rfl ?_
  refine op_pure (pv_of (v := .bool _) rfl) ?_
  refine op_pure (pv_pickF rfl rfl (v := .bool _) rfl) ?_
  refine op_pure (pv_move (v := .bool _) rfl) ?_
  refine guard_yes rfl g25 ?_
  refine op_pure (pv_move (v := .slice _ _ _) rfl) ?_
  refine guard_yes rfl g25 ?_
  refine op_pure (pv_len rfl rfl) ?_
  refine guard_yes rfl g25 ?_
  refine op_pure (pv_move (v := .int .i64 _) rfl) ?_
  refine guard_yes rfl g25 ?_
  refine op_pure (pv_arith rfl (by omega)) ?_
  refine guard_yes rfl g25 ?_
  refine op_pure (pv_of (v := .bool _) rfl) ?_
  refine op_pure (pv_pickF rfl g25 (v := .bool _) rfl) ?_
  refine op_pure (pv_move (v := .bool _) rfl) ?_
  refine guard_yes rfl g32 ?_
  refine op_pure (pv_move (v := .slice _ _ _) rfl) ?_
  refine guard_yes rfl g32 ?_
  refine op_pure (pv_len rfl rfl) ?_
  refine guard_yes rfl g32 ?_
  refine op_pure (pv_fieldAddr rfl rfl rfl rfl 2 rfl) ?_
  refine guard_yes rfl g32 ?_
  refine op_loadP 1 (v := .slice _ _ _) rfl rfl rfl rfl ?_
  refine guard_yes rfl g32 ?_
  refine op_pure (pv_len rfl rfl) ?_
  refine guard_yes rfl g32 ?_
  refine op_pure (pv_of (v := .bool _) rfl) ?_
  refine op_pure (pv_pickF rfl g32 (v := .bool _) rfl) ?_
  refine op_pure (pv_move (v := .bool _) rfl) ?_
  refine guard_yes rfl g40 ?_
  refine op_pure (pv_move (v := .slice _ _ _) rfl) ?_
  refine guard_yes rfl g40 ?_
  refine op_pure (pv_len rfl rfl) ?_
  refine guard_yes rfl g40 ?_
  refine op_pure (pv_of (v := .bool _) rfl) ?_
  refine op_pure (pv_pickF rfl g40 (v := .bool _) rfl) ?_
  refine xp_condF rfl (rfl) ?_
  refine xp_skip ?_
  refine xp_seq ?_
  refine xp_seq ?_
  refine xp_region rfl ?_
  refine op_pure (pv_assign (v := .int .i64 _) rfl) ?_
  refine xp_block ?_
  refine xp_loopB [2, 18, 19, 20, 21, 22, 23, 24, 118, 119, 120, 121, 122, 123, 124, 125, 126, 127, 128, 129, 130, 131, 132, 133, 134, 135, 136, 137, 138, 139, 140, 141, 142, 143, 144, 145, 146, 147, 148, 149, 150, 151, 152, 153, 154, 155, 156, 157, 158, 159, 160, 161, 162, 163, 164, 165, 166, 167, 168, 169, 170, 171, 172, 173, 174, 175, 176, 177, 178, 179, 180, 181, 182, 183, 184, 185, 186, 187, 188, 189, 190, 191, 192, 193, 194, 195, 196, 197, 198, 199] 3 (α := Nat) (fun w => [(18, .int .i64 w)]) (fun w => _) (fun w h_w => w ≤ s.heats.length) (fun w => s.heats.length - w) (0) ⟨rfl, trivial⟩ (rfl) (Nat.zero_le _) ?_
  rintro w T1 h_w E_w J_w
  refine goes_norm [_, _, _] rfl ?_
  refine xp_seq ?_
  refine xp_seq ?_
  refine xp_region rfl ?_
  refine op_pure (pv_move (v := .int .i64 _) rfl) ?_
  refine op_pure (pv_move (v := .int .i64 _) rfl) ?_
  refine op_pure (pv_of (v := .bool _) rfl) ?_
  refine xp_cond rfl (fun hw => ?_) (fun hw => ?_)
  · skip
    have hwl : w < s.heats.length := by have := of_decide_eq_true hw; omega
    refine xp_skip ?_
    refine xp_seq ?_
    refine xp_block ?_
    refine xp_seq ?_
    refine xp_region rfl ?_
    refine op_pure (pv_assign (v := .int .i64 _) rfl) ?_
    refine xp_seq ?_
    refine xp_seq ?_
    refine xp_region rfl ?_
    refine op_pure (pv_assign (v := .int .i64 _) rfl) ?_
    refine xp_block ?_
    refine xp_loopB [2, 19, 20, 21, 22, 123, 124, 125, 126, 127, 128, 129, 130, 131, 132, 133, 134, 135, 136, 137, 138, 139, 140, 141, 142, 143, 144, 145, 146, 147, 148, 149, 150, 151, 152, 153, 154, 155, 156, 157, 158, 159] 3 (α := Nat) (fun j => [(20, .int .i64 j), (19, .int .i64 (soundT fs w j : Nat))]) (fun j => _) (fun j h_j => j ≤ s.joints.length) (fun j => s.joints.length - j) (0) ⟨rfl, rfl, trivial⟩ (rfl) (Nat.zero_le _) ?_
    rintro j T2 h_j E_j J_j
    refine goes_norm [_, _, _] rfl ?_
    refine xp_seq ?_
    refine xp_seq ?_
    refine xp_region rfl ?_
    refine op_pure (pv_move (v := .int .i64 _) rfl) ?_
    refine op_pure (pv_fieldAddr rfl rfl rfl rfl 2 rfl) ?_
    refine op_loadP 2 (v := .slice _ _ _) rfl rfl rfl rfl ?_
    refine op_pure (pv_len rfl rfl) ?_
    refine op_pure (pv_of (v := .bool _) rfl) ?_
    refine xp_cond rfl (fun hj => ?_) (fun hj => ?_)
    · skip
      have hjn : j < s.joints.length := by have := ltI hj; omega
      have hjf : j < fs.length := by omega
      have hst := soundT_le fs w j
      obtain ⟨f, e1, e2, e3⟩ := true_fails T (by omega) hjn
      have hfj : fs[j] = (f : Int) := by rw [List.getElem?_eq_getElem hjf] at e1; simpa using e1
      have hgd : fs.getD j 0 = (f : Int) := by rw [List.getD_eq_getElem?_getD, e1]; rfl
      obtain ⟨g, off, hFA, hcf⟩ := (R3.ext (Ext.trans (Ext.trans (Ext.trans (Ext.trans (Ext.trans (Ext.trans (Ext.trans E3 E4) E5) E7) E8) E9) E_w) E_j)).at (by omega) hjf
      rw [hfj] at hcf
      have fo := failed_of C hmay hjn hwl
      have hr : rightM (failedM s j w) (decide ((f : Int) ≤ (w : Int))) = true := by
        unfold failedM
        refine right_verdict (fun h => ?_) (fun h => ?_)
        · rw [decide_eq_true_eq] at h
          exact decide_eq_true (upto_some e3 (by omega))
        · rw [decide_eq_false_iff_not] at h
          exact decide_eq_true (upto_less e3 (by omega))
      refine xp_skip ?_
      refine xp_seq ?_
      refine xp_block ?_
      refine xp_seq ?_
      refine xp_region rfl ?_
      refine op_loadPA 1 (vs := [.slice _ _ _, .slice _ _ _, .slice _ _ _, .slice _ _ _]) rfl rfl rfl rfl rfl ?_
      refine op_pure (pv_move (v := .int .i64 _) rfl) ?_
      refine op_pure (pv_move (v := .int .i64 _) rfl) ?_
      have HD := Failed_ok s Sm j w A0 A1 A2 A3 c0 c1 c2 c3 h_j (RS.ext (Ext.trans (Ext.trans (Ext.trans (Ext.trans (Ext.trans (Ext.trans (Ext.trans E3 E4) E5) E7) E8) E9) E_w) E_j))
      rw [fo.1, fo.2] at HD
      refine op_fn (caps := []) (vs := [.agg #[.slice _ _ _, .slice _ _ _, .slice _ _ _, .slice _ _ _], .int .i64 _, .int .i64 _]) rfl rfl rfl (HD) ?_
      rintro _ g1 F1 rfl
      refine op_pure (pv_move (v := .tuple #[.int .i64 _, .int .i64 _]) rfl) ?_
      refine op_pure (pv_of (v := .int .i64 _) rfl) ?_
      refine op_pure (pv_of (v := .int .i64 _) rfl) ?_
      refine op_pure (pv_assign (v := .int .i64 _) rfl) ?_
      refine op_pure (pv_assign (v := .int .i64 _) rfl) ?_
      refine xp_seq ?_
      refine xp_seq ?_
      refine xp_region rfl ?_
      refine op_pure (pv_move (v := .int .i64 _) rfl) ?_
      refine op_pure (pv_of (v := .bool _) rfl) ?_
      refine op_pure (pv_move (v := .bool _) rfl) ?_
      refine guard_yes rfl rfl ?_
      refine op_pure (pv_move (v := .int .i64 _) rfl) ?_
      refine guard_yes rfl rfl ?_
      refine op_pure (pv_fieldAddr rfl rfl rfl rfl 2 rfl) ?_
      refine guard_yes rfl rfl ?_
      refine op_loadP 2 (v := .slice _ _ _) rfl rfl rfl rfl ?_
      refine guard_yes rfl rfl ?_
      refine op_pure (pv_move (v := .int .i64 _) rfl) ?_
      refine guard_yes rfl rfl ?_
      refine op_pure (pv_indexE rfl hFA rfl rfl rfl (by omega) (by omega)) ?_
      refine guard_yes rfl rfl ?_
      refine op_load (v := .int .i64 _) rfl rfl ((hcf.ext F1) 0 _ rfl) ?_
      refine guard_yes rfl rfl ?_
      refine op_pure (pv_move (v := .int .i64 _) rfl) ?_
      refine guard_yes rfl rfl ?_
      refine op_pure (pv_of (v := .bool _) rfl) ?_
      refine guard_yes rfl rfl ?_
      have HR := right_ok (failedM s j w) (decide ((f : Int) ≤ (w : Int))) g1
      rw [hr] at HR
      refine op_fn (caps := []) (vs := [.int .i64 _, .bool _]) rfl rfl rfl (HR) ?_
      rintro _ g2 F2 rfl
      refine guard_yes rfl rfl ?_
      refine op_pure (pv_of (v := .bool _) rfl) ?_
      refine op_pure (pv_pickF rfl rfl (v := .bool _) rfl) ?_
      refine xp_condF rfl (rfl) ?_
      refine xp_skip ?_
      refine xp_seq ?_
      refine xp_region rfl ?_
      refine op_pure (pv_fieldAddr rfl rfl rfl rfl 2 rfl) ?_
      refine op_loadP 2 (v := .slice _ _ _) rfl rfl rfl rfl ?_
      refine op_pure (pv_move (v := .int .i64 _) rfl) ?_
      refine op_pure (pv_indexE rfl hFA rfl rfl rfl (by omega) (by omega)) ?_
      refine op_load (v := .int .i64 _) rfl rfl ((hcf.ext (Ext.trans F1 F2)) 0 _ rfl) ?_
      refine op_pure (pv_move (v := .int .i64 _) rfl) ?_
      refine op_pure (pv_of (v := .bool _) rfl) ?_
      refine xp_cond rfl (fun hgt => ?_) (fun hgt => ?_)
      · skip
        have hgt' : (f : Int) > (w : Int) := of_decide_eq_true hgt
        refine xp_region rfl ?_
        refine op_pure (pv_move (v := .int .i64 _) rfl) ?_
        refine op_pure (pv_arith rfl (by omega)) ?_
        refine op_pure (pv_assign (v := .int .i64 _) rfl) ?_
        refine xp_region rfl ?_
        refine op_pure (pv_move (v := .int .i64 _) rfl) ?_
        refine op_pure (pv_arith rfl (by omega)) ?_
        refine op_pure (pv_assign (v := .int .i64 _) rfl) ?_
        refine ⟨j + 1, ⟨rfl, intE (by rw [soundT, hgd, if_pos hgt']; omega), trivial⟩, rfl, rfl, (Ext.trans (Ext.trans E_j F1) F2), fun h3 E3 => by omega, by first | omega | (dsimp only; omega), ?_⟩
        repeat (first | exact off_base _ _ _ | refine off_upd (by decide) ?_ | refine off_updL rfl ?_ | refine off_mix rfl ?_)
      · skip
        have hgt' : ¬ (f : Int) > (w : Int) := of_decide_eq_false hgt
        refine xp_skip ?_
        refine xp_region rfl ?_
        refine op_pure (pv_move (v := .int .i64 _) rfl) ?_
        refine op_pure (pv_arith rfl (by omega)) ?_
        refine op_pure (pv_assign (v := .int .i64 _) rfl) ?_
        refine ⟨j + 1, ⟨rfl, intE (by rw [soundT, hgd, if_neg hgt']; omega), trivial⟩, rfl, rfl, (Ext.trans (Ext.trans E_j F1) F2), fun h3 E3 => by omega, by first | omega | (dsimp only; omega), ?_⟩
        repeat (first | exact off_base _ _ _ | refine off_upd (by decide) ?_ | refine off_updL rfl ?_ | refine off_mix rfl ?_)
    · skip
      have hje : j = s.joints.length := by have := geI hj; omega
      subst hje
      have so := sound_of C hmay hwl
      have sb := sound_between (fs := fs) (F := F) (w := w) s.joints.length fun i hi => by obtain ⟨f, a, _, b⟩ := hfate i hi; exact ⟨f, a, b⟩
      have slo := ((foldl_min (fun f => mustN f w s.joints.length) (allFates s) s.joints.length (soundLo s w (allFates s))).1 (Nat.le_refl _)).2 F hF
      have shi := ((foldl_max (fun f => canN f w s.joints.length) (allFates s) 0 (soundHi s w (allFates s))).1 (Nat.le_refl _)).2 F hF
      have hwx' : w < wx.length := by omega
      have hwy' : w < wy.length := by omega
      have hwh : w < ht.length := by omega
      have hwd : w < dt.length := by omega
      obtain ⟨gX, oX, hXA, hcX⟩ := (XR.ext (Ext.trans (Ext.trans (Ext.trans (Ext.trans (Ext.trans E5 E7) E8) E9) E_w) E_j)).at (by omega) hwx'
      obtain ⟨gY, oY, hYA, hcY⟩ := (YR.ext (Ext.trans (Ext.trans (Ext.trans (Ext.trans E7 E8) E9) E_w) E_j)).at (by omega) hwy'
      obtain ⟨gH, oH, hHA, hcH⟩ := (R1.ext (Ext.trans (Ext.trans (Ext.trans (Ext.trans (Ext.trans (Ext.trans (Ext.trans E3 E4) E5) E7) E8) E9) E_w) E_j)).at (by omega) hwh
      obtain ⟨gD, oD, hDA, hcD⟩ := (R2.ext (Ext.trans (Ext.trans (Ext.trans (Ext.trans (Ext.trans (Ext.trans (Ext.trans E3 E4) E5) E7) E8) E9) E_w) E_j)).at (by omega) hwd
      have i1 : (decide ((soundLo s w (allFates s) : Int) ≤ (soundT fs w s.joints.length : Nat)) && decide (((soundT fs w s.joints.length : Nat) : Int) ≤ (soundHi s w (allFates s) : Nat))) = true := by rw [Bool.and_eq_true, decide_eq_true_eq, decide_eq_true_eq]; omega
      have i2 : (decide (wx[w].mn ≤ ht[w]) && decide (ht[w] ≤ wx[w].mx)) = true := by
        have h1 := weekR_has sk1 w
        rw [skyOf_at _ _ (by omega), List.getD_eq_getElem?_getD, List.getElem?_eq_getElem hwh] at h1
        have h2 : wx[w] = weekR (skM s 1) w := by simp [← hwx]
        rw [h2, Bool.and_eq_true, decide_eq_true_eq, decide_eq_true_eq]
        exact h1
      have i3 : (decide (wy[w].mn ≤ dt[w]) && decide (dt[w] ≤ wy[w].mx)) = true := by
        have h1 := weekR_has sk2 w
        rw [skyOf_at _ _ (by omega), List.getD_eq_getElem?_getD, List.getElem?_eq_getElem hwd] at h1
        have h2 : wy[w] = weekR (skM s 2) w := by simp [← hwy]
        rw [h2, Bool.and_eq_true, decide_eq_true_eq, decide_eq_true_eq]
        exact h1
      refine xp_exit ?_
      refine xp_seq ?_
      refine xp_region rfl ?_
      refine op_loadPA 1 (vs := [.slice _ _ _, .slice _ _ _, .slice _ _ _, .slice _ _ _]) rfl rfl rfl rfl rfl ?_
      refine op_pure (pv_move (v := .int .i64 _) rfl) ?_
      have HS := Sound_ok s Sm w A0 A1 A2 A3 c0 c1 c2 c3 h_j (RS.ext (Ext.trans (Ext.trans (Ext.trans (Ext.trans (Ext.trans (Ext.trans (Ext.trans E3 E4) E5) E7) E8) E9) E_w) E_j))
      rw [so.1, so.2] at HS
      refine op_fn (caps := []) (vs := [.agg #[.slice _ _ _, .slice _ _ _, .slice _ _ _, .slice _ _ _], .int .i64 _]) rfl rfl rfl (HS) ?_
      rintro _ g1 F1 rfl
      refine op_pure (pv_move (v := .tuple #[.agg #[.int .i64 _, .int .i64 _], .int .i64 _]) rfl) ?_
      refine op_pure (pv_of (v := .agg #[.int .i64 _, .int .i64 _]) rfl) ?_
      refine op_pure (pv_of (v := .int .i64 _) rfl) ?_
      refine op_alloc (cs := [_, _]) rfl rfl fun b23 hb23 => ?_
      refine wp_norm [_, _, _, _] rfl ?_
      refine op_storeP 3 (v := .agg #[.int .i64 _, .int .i64 _]) (vs := [_, _]) (c' := [_, _]) rfl rfl rfl rfl rfl rfl rfl rfl rfl ?_
      refine wp_norm [_, _, _, _] rfl ?_
      refine op_pure (pv_assign (v := .int .i64 _) rfl) ?_
      refine xp_seq ?_
      refine xp_dw [] rfl rfl rfl ?_
      refine dw_pure (i := 0) rfl (by decide +kernel) (pv_move (v := .int .i64 _) rfl) ?_
      refine dw_pure (i := 1) rfl (by decide +kernel) (pv_of (v := .bool _) rfl) ?_
      refine dw_pure (i := 2) rfl (by decide +kernel) (pv_move (v := .bool _) rfl) ?_
      refine dw_loadG (i := 3) rfl (by decide +kernel) rfl rfl ?_
      refine op_loadPA 3 (vs := [.int .i64 _, .int .i64 _]) rfl rfl rfl rfl rfl ?_
      refine dw_pureG (i := 4) rfl (by decide +kernel) rfl rfl (pv_move (v := .int .i64 _) rfl) ?_
      have I1 := In_ok ⟨(soundLo s w (allFates s) : Nat), (soundHi s w (allFates s) : Nat)⟩ (soundT fs w s.joints.length : Nat) g1
      dsimp only at I1
      rw [i1] at I1
      refine dw_lastG (i := 5) rfl (by decide +kernel) (by decide +kernel) rfl rfl ?_
      refine op_fn (caps := []) (vs := [.agg #[.int .i64 _, .int .i64 _], .int .i64 _]) rfl rfl rfl (I1) ?_
      rintro _ g2 F2 rfl
      refine dw_pureG (i := 6) rfl (by decide +kernel) rfl rfl (pv_of (v := .bool _) rfl) ?_
      refine dw_pure (i := 7) rfl (by decide +kernel) (pv_pickF rfl rfl (v := .bool _) rfl) ?_
      refine dw_pure (i := 8) rfl (by decide +kernel) (pv_move (v := .bool _) rfl) ?_
      refine dw_pureG (i := 9) rfl (by decide +kernel) rfl rfl (pv_move (v := .slice _ _ _) rfl) ?_
      refine dw_pureG (i := 10) rfl (by decide +kernel) rfl rfl (pv_move (v := .int .i64 _) rfl) ?_
      refine dw_pureG (i := 11) rfl (by decide +kernel) rfl rfl (pv_indexE rfl hXA rfl rfl rfl (by omega) (by omega)) ?_
      refine dw_loadG (i := 12) rfl (by decide +kernel) rfl rfl ?_
      refine op_loadA rfl rfl rfl rfl (hcX.ext (Ext.trans F1 F2)) ?_
      refine dw_pureG (i := 13) rfl (by decide +kernel) rfl rfl (pv_fieldAddr rfl rfl rfl rfl 0 rfl) ?_
      refine dw_loadG (i := 14) rfl (by decide +kernel) rfl rfl ?_
      refine op_loadP 2 (v := .slice _ _ _) rfl rfl rfl rfl ?_
      refine dw_pureG (i := 15) rfl (by decide +kernel) rfl rfl (pv_move (v := .int .i64 _) rfl) ?_
      refine dw_pureG (i := 16) rfl (by decide +kernel) rfl rfl (pv_indexE rfl hHA rfl rfl rfl (by omega) (by omega)) ?_
      refine dw_loadG (i := 17) rfl (by decide +kernel) rfl rfl ?_
      refine op_load (v := .int .i64 _) rfl rfl ((hcH.ext (Ext.trans F1 F2)) 0 _ rfl) ?_
      have I2 := In_ok wx[w] ht[w] g2
      rw [i2] at I2
      refine dw_lastG (i := 18) rfl (by decide +kernel) (by decide +kernel) rfl rfl ?_
      refine op_fn (caps := []) (vs := [.agg #[.int .i64 _, .int .i64 _], .int .i64 _]) rfl rfl rfl (I2) ?_
      rintro _ g3 F3 rfl
      refine dw_pureG (i := 19) rfl (by decide +kernel) rfl rfl (pv_of (v := .bool _) rfl) ?_
      refine dw_pure (i := 20) rfl (by decide +kernel) (pv_pickF rfl rfl (v := .bool _) rfl) ?_
      refine dw_pure (i := 21) rfl (by decide +kernel) (pv_move (v := .bool _) rfl) ?_
      refine dw_pureG (i := 22) rfl (by decide +kernel) rfl rfl (pv_move (v := .slice _ _ _) rfl) ?_
      refine dw_pureG (i := 23) rfl (by decide +kernel) rfl rfl (pv_move (v := .int .i64 _) rfl) ?_
      refine dw_pureG (i := 24) rfl (by decide +kernel) rfl rfl (pv_indexE rfl hYA rfl rfl rfl (by omega) (by omega)) ?_
      refine dw_loadG (i := 25) rfl (by decide +kernel) rfl rfl ?_
      refine op_loadA rfl rfl rfl rfl (hcY.ext (Ext.trans (Ext.trans F1 F2) F3)) ?_
      refine dw_pureG (i := 26) rfl (by decide +kernel) rfl rfl (pv_fieldAddr rfl rfl rfl rfl 1 rfl) ?_
      refine dw_loadG (i := 27) rfl (by decide +kernel) rfl rfl ?_
      refine op_loadP 2 (v := .slice _ _ _) rfl rfl rfl rfl ?_
      refine dw_pureG (i := 28) rfl (by decide +kernel) rfl rfl (pv_move (v := .int .i64 _) rfl) ?_
      refine dw_pureG (i := 29) rfl (by decide +kernel) rfl rfl (pv_indexE rfl hDA rfl rfl rfl (by omega) (by omega)) ?_
      refine dw_loadG (i := 30) rfl (by decide +kernel) rfl rfl ?_
      refine op_load (v := .int .i64 _) rfl rfl ((hcD.ext (Ext.trans (Ext.trans F1 F2) F3)) 0 _ rfl) ?_
      have I3 := In_ok wy[w] dt[w] g3
      rw [i3] at I3
      refine dw_lastG (i := 31) rfl (by decide +kernel) (by decide +kernel) rfl rfl ?_
      refine op_fn (caps := []) (vs := [.agg #[.int .i64 _, .int .i64 _], .int .i64 _]) rfl rfl rfl (I3) ?_
      rintro _ g4 F4 rfl
      refine dw_pureG (i := 32) rfl (by decide +kernel) rfl rfl (pv_of (v := .bool _) rfl) ?_
      refine dw_pure (i := 33) rfl (by decide +kernel) (pv_pickF rfl rfl (v := .bool _) rfl) ?_
      refine dw_end rfl ?_
      refine xp_condF rfl (rfl) ?_
      refine xp_skip ?_
      refine xp_region rfl ?_
      refine op_pure (pv_move (v := .int .i64 _) rfl) ?_
      refine op_pure (pv_arith rfl (by omega)) ?_
      refine op_pure (pv_assign (v := .int .i64 _) rfl) ?_
      refine ⟨w + 1, ⟨rfl, trivial⟩, rfl, rfl, (Ext.trans (Ext.trans (Ext.trans (Ext.trans (Ext.trans E_w E_j) F1) F2) F3) F4), fun h3 E3 => by omega, by first | omega | (dsimp only; omega), ?_⟩
      repeat (first | exact off_base _ _ _ | refine off_upd (by decide) ?_ | refine off_updL rfl ?_ | refine off_mix rfl ?_)
  · skip
    refine xp_exit ?_
    refine xp_seq ?_
    refine xp_seq ?_
    refine xp_region rfl ?_
    refine op_pure (pv_assign (v := .int .i64 _) rfl) ?_
    refine xp_block ?_
    refine xp_loopB [2, 25, 26, 27, 28, 29, 30, 31, 200, 201, 202, 203, 204, 205, 206, 207, 208, 209, 210, 211, 212, 213, 214, 215, 216, 217, 218, 219, 220, 221, 222, 223, 224, 225, 226, 227, 228, 229, 230, 231, 232, 233, 234, 235, 236, 237, 238, 239, 240, 241, 242, 243, 244, 245, 246, 247, 248, 249, 250, 251, 252, 253, 254, 255, 256, 257, 258, 259, 260, 261, 262, 263, 264, 265, 266, 267, 268, 269, 270, 271, 272, 273, 274, 275, 276, 277, 278, 279, 280, 281, 282, 283, 284, 285, 286, 287, 288, 289, 290, 291, 292, 293, 294, 295, 296, 297, 298, 299, 300, 301, 302, 303, 304] 3 (α := Nat) (fun j2 => [(25, .int .i64 j2)]) (fun j2 => _) (fun j2 h_j2 => j2 ≤ s.joints.length) (fun j2 => s.joints.length - j2) (0) ⟨rfl, trivial⟩ (rfl) (Nat.zero_le _) ?_
    rintro j2 T3 h_j2 E_j2 J_j2
    refine goes_norm [_, _, _] rfl ?_
    refine xp_seq ?_
    refine xp_seq ?_
    refine xp_region rfl ?_
    refine op_pure (pv_move (v := .int .i64 _) rfl) ?_
    refine op_pure (pv_fieldAddr rfl rfl rfl rfl 2 rfl) ?_
    refine op_loadP 2 (v := .slice _ _ _) rfl rfl rfl rfl ?_
    refine op_pure (pv_len rfl rfl) ?_
    refine op_pure (pv_of (v := .bool _) rfl) ?_
    refine xp_cond rfl (fun hj => ?_) (fun hj => ?_)
    · skip
      have hjn : j2 < s.joints.length := by have := ltI hj; omega
      have hjf : j2 < fs.length := by omega
      obtain ⟨f, e1, e2, e3⟩ := true_fails T (by omega) hjn
      have hfj : fs[j2] = (f : Int) := by rw [List.getElem?_eq_getElem hjf] at e1; simpa using e1
      have hgd : fs.getD j2 0 = (f : Int) := by rw [List.getD_eq_getElem?_getD, e1]; rfl
      obtain ⟨g, off, hFA, hcf⟩ := (R3.ext (Ext.trans (Ext.trans (Ext.trans (Ext.trans (Ext.trans (Ext.trans (Ext.trans E3 E4) E5) E7) E8) E9) E_w) E_j2)).at (by omega) hjf
      rw [hfj] at hcf
      have fo := fails_of C hmay hjn
      refine xp_skip ?_
      refine xp_seq ?_
      refine xp_block ?_
      refine xp_seq ?_
      refine xp_region rfl ?_
      refine op_loadPA 1 (vs := [.slice _ _ _, .slice _ _ _, .slice _ _ _, .slice _ _ _]) rfl rfl rfl rfl rfl ?_
      refine op_pure (pv_move (v := .int .i64 _) rfl) ?_
      have HF := Fails_ok s Sm j2 A0 A1 A2 A3 c0 c1 c2 c3 h_j2 (RS.ext (Ext.trans (Ext.trans (Ext.trans (Ext.trans (Ext.trans (Ext.trans (Ext.trans E3 E4) E5) E7) E8) E9) E_w) E_j2))
      rw [fo.1, fo.2] at HF
      refine op_fn (caps := []) (vs := [.agg #[.slice _ _ _, .slice _ _ _, .slice _ _ _, .slice _ _ _], .int .i64 _]) rfl rfl rfl (HF) ?_
      rintro _ g1 F1 ⟨_, rfl, QA, qc, rfl, QR⟩
      refine op_pure (pv_move (v := .tuple #[.slice _ _ _, .int .i64 _]) rfl) ?_
      refine op_pure (pv_of (v := .slice _ _ _) rfl) ?_
      refine op_pure (pv_of (v := .int .i64 _) rfl) ?_
      refine op_pure (pv_assign (v := .slice _ _ _) rfl) ?_
      refine op_pure (pv_assign (v := .int .i64 _) rfl) ?_
      refine xp_seq ?_
      refine xp_region rfl ?_
      refine op_pure (pv_fieldAddr rfl rfl rfl rfl 2 rfl) ?_
      refine op_loadP 2 (v := .slice _ _ _) rfl rfl rfl rfl ?_
      refine op_pure (pv_move (v := .int .i64 _) rfl) ?_
      refine op_pure (pv_indexE rfl hFA rfl rfl rfl (by omega) (by omega)) ?_
      refine op_load (v := .int .i64 _) rfl rfl ((hcf.ext F1) 0 _ rfl) ?_
      refine op_pure (pv_move (v := .int .i64 _) rfl) ?_
      refine op_pure (pv_of (v := .bool _) rfl) ?_
      refine op_pure (pv_move (v := .int .i64 _) rfl) ?_
      refine op_pure (pv_arith rfl (by omega)) ?_
      refine op_pure (pv_assign (v := .bool _) rfl) ?_
      refine op_pure (pv_assign (v := .int .i64 _) rfl) ?_
      refine xp_seq ?_
      refine xp_seq ?_
      refine xp_region rfl ?_
      refine op_pure (pv_assign (v := .int .i64 _) rfl) ?_
      refine xp_block ?_
      refine xp_loopB [28, 30, 222, 223, 224, 225, 226, 227, 228, 229, 230, 231, 232, 233, 234, 235, 236, 237, 238, 239, 240, 241, 242] 3 (α := Nat) (fun o => [(30, .int .i64 o), (28, .bool (isT fs s.heats.length j2 o))]) (fun o => _) (fun o h_o => o ≤ s.joints.length) (fun o => s.joints.length - o) (0) ⟨rfl, congrArg Value.bool (by rw [isT, hgd]), trivial⟩ (rfl) (Nat.zero_le _) ?_
      rintro o T4 h_o E_o J_o
      refine goes_norm [_, _, _] rfl ?_
      refine xp_seq ?_
      refine xp_seq ?_
      refine xp_region rfl ?_
      refine op_pure (pv_move (v := .int .i64 _) rfl) ?_
      refine op_pure (pv_fieldAddr rfl rfl rfl rfl 2 rfl) ?_
      refine op_loadP 2 (v := .slice _ _ _) rfl rfl rfl rfl ?_
      refine op_pure (pv_len rfl rfl) ?_
      refine op_pure (pv_of (v := .bool _) rfl) ?_
      refine xp_cond rfl (fun ho => ?_) (fun ho => ?_)
      · skip
        have hon : o < s.joints.length := by have := ltI ho; omega
        have hof : o < fs.length := by omega
        have hgo : fs.getD o 0 = fs[o] := by rw [List.getD_eq_getElem?_getD, List.getElem?_eq_getElem hof]; rfl
        obtain ⟨g', off', hFA', hco⟩ := (R3.ext (Ext.trans (Ext.trans (Ext.trans (Ext.trans (Ext.trans (Ext.trans (Ext.trans (Ext.trans (Ext.trans E3 E4) E5) E7) E8) E9) E_w) E_j2) F1) E_o)).at (by omega) hof
        rcases Bool.eq_false_or_eq_true (isT fs s.heats.length j2 o) with ht' | ht'
        · skip
          refine xp_skip ?_
          refine xp_seq ?_
          refine xp_block ?_
          refine xp_dw [] rfl rfl rfl ?_
          refine dw_pure (i := 0) rfl (by decide +kernel) (pv_move (v := .bool _) rfl) ?_
          refine dw_pure (i := 1) rfl (by decide +kernel) (pv_move (v := .bool _) rfl) ?_
          refine dw_pureG (i := 2) rfl (by decide +kernel) rfl ht' (pv_fieldAddr rfl rfl rfl rfl 2 rfl) ?_
          refine dw_loadG (i := 3) rfl (by decide +kernel) rfl ht' ?_
          refine op_loadP 2 (v := .slice _ _ _) rfl rfl rfl rfl ?_
          refine dw_pureG (i := 4) rfl (by decide +kernel) rfl ht' (pv_move (v := .int .i64 _) rfl) ?_
          refine dw_pureG (i := 5) rfl (by decide +kernel) rfl ht' (pv_indexE rfl hFA' rfl rfl rfl (by omega) (by omega)) ?_
          refine dw_loadG (i := 6) rfl (by decide +kernel) rfl ht' ?_
          refine op_load (v := .int .i64 _) rfl rfl ((hco) 0 _ rfl) ?_
          refine dw_pureG (i := 7) rfl (by decide +kernel) rfl ht' (pv_fieldAddr rfl rfl rfl rfl 2 rfl) ?_
          refine dw_loadG (i := 8) rfl (by decide +kernel) rfl ht' ?_
          refine op_loadP 2 (v := .slice _ _ _) rfl rfl rfl rfl ?_
          refine dw_pureG (i := 9) rfl (by decide +kernel) rfl ht' (pv_move (v := .int .i64 _) rfl) ?_
          refine dw_pureG (i := 10) rfl (by decide +kernel) rfl ht' (pv_indexE rfl hFA rfl rfl rfl (by omega) (by omega)) ?_
          refine dw_loadG (i := 11) rfl (by decide +kernel) rfl ht' ?_
          refine op_load (v := .int .i64 _) rfl rfl ((hcf.ext (Ext.trans F1 E_o)) 0 _ rfl) ?_
          refine dw_pureG (i := 12) rfl (by decide +kernel) rfl ht' (pv_of (v := .bool _) rfl) ?_
          refine dw_pure (i := 13) rfl (by decide +kernel) (pv_pickT rfl ht' (v := .bool _) rfl) ?_
          refine dw_pure (i := 14) rfl (by decide +kernel) (pv_assign (v := .bool _) rfl) ?_
          refine dw_end rfl ?_
          refine xp_region rfl ?_
          refine op_pure (pv_move (v := .int .i64 _) rfl) ?_
          refine op_pure (pv_arith rfl (by omega)) ?_
          refine op_pure (pv_assign (v := .int .i64 _) rfl) ?_
          refine ⟨o + 1, ⟨rfl, congrArg Value.bool (by rw [isT, ht', hgo, hgd]; rfl), trivial⟩, rfl, rfl, E_o, fun h3 E3 => by omega, by first | omega | (dsimp only; omega), ?_⟩
          repeat (first | exact off_base _ _ _ | refine off_upd (by decide) ?_ | refine off_updL rfl ?_ | refine off_mix rfl ?_)
        · skip
          refine xp_skip ?_
          refine xp_seq ?_
          refine xp_block ?_
          refine xp_dw [] rfl rfl rfl ?_
          refine dw_pure (i := 0) rfl (by decide +kernel) (pv_move (v := .bool _) rfl) ?_
          refine dw_pure (i := 1) rfl (by decide +kernel) (pv_move (v := .bool _) rfl) ?_
          refine dw_skip (i := 2) rfl (by decide +kernel) rfl ht' ?_
          refine dw_skip (i := 3) rfl (by decide +kernel) rfl ht' ?_
          refine dw_skip (i := 4) rfl (by decide +kernel) rfl ht' ?_
          refine dw_skip (i := 5) rfl (by decide +kernel) rfl ht' ?_
          refine dw_skip (i := 6) rfl (by decide +kernel) rfl ht' ?_
          refine dw_skip (i := 7) rfl (by decide +kernel) rfl ht' ?_
          refine dw_skip (i := 8) rfl (by decide +kernel) rfl ht' ?_
          refine dw_skip (i := 9) rfl (by decide +kernel) rfl ht' ?_
          refine dw_skip (i := 10) rfl (by decide +kernel) rfl ht' ?_
          refine dw_skip (i := 11) rfl (by decide +kernel) rfl ht' ?_
          refine dw_skip (i := 12) rfl (by decide +kernel) rfl ht' ?_
          refine dw_pure (i := 13) rfl (by decide +kernel) (pv_pickF rfl ht' (v := .bool _) rfl) ?_
          refine dw_pure (i := 14) rfl (by decide +kernel) (pv_assign (v := .bool _) rfl) ?_
          refine dw_end rfl ?_
          refine xp_region rfl ?_
          refine op_pure (pv_move (v := .int .i64 _) rfl) ?_
          refine op_pure (pv_arith rfl (by omega)) ?_
          refine op_pure (pv_assign (v := .int .i64 _) rfl) ?_
          refine ⟨o + 1, ⟨rfl, congrArg Value.bool (by rw [isT, ht']; rfl), trivial⟩, rfl, rfl, E_o, fun h3 E3 => by omega, by first | omega | (dsimp only; omega), ?_⟩
          repeat (first | exact off_base _ _ _ | refine off_upd (by decide) ?_ | refine off_updL rfl ?_ | refine off_mix rfl ?_)
      · skip
        have hoe : o = s.joints.length := by have := geI ho; omega
        subst hoe
        have hcf1 : Cells h_o g (off + j2 * 1) (intC (f : Int)) := hcf.ext (Ext.trans F1 E_o)
        refine xp_exit ?_
        refine xp_seq ?_
        refine xp_seq ?_
        refine xp_region rfl ?_
        refine op_pure (pv_move (v := .slice _ _ _) rfl) ?_
        refine op_pure (pv_len rfl rfl) ?_
        refine op_pure (pv_arith rfl (by omega)) ?_
        refine op_pure (pv_assign (v := .int .i64 _) rfl) ?_
        refine xp_block ?_
        refine xp_loopB [29, 31, 246, 247, 248, 249, 250, 251, 252, 253, 254, 255, 256, 257, 258, 259, 260, 261, 262, 263] 3 (α := Nat) (fun k => [(31, .int .i64 ((lk.length : Int) - 1 - k)), (29, .int .i64 (seenK lk f s.heats.length k))]) (fun k => _) (fun k h_k => k ≤ lk.length) (fun k => lk.length - k) (0) ⟨intE (by omega), intE (by rw [seenK]; omega), trivial⟩ (rfl) (Nat.zero_le _) ?_
        rintro k T5 h_k E_k J_k
        refine goes_norm [_, _, _] rfl ?_
        refine xp_seq ?_
        refine xp_seq ?_
        refine xp_region rfl ?_
        refine op_pure (pv_move (v := .int .i64 _) rfl) ?_
        refine op_pure (pv_of (v := .bool _) rfl) ?_
        refine xp_cond rfl (fun hk => ?_) (fun hk => ?_)
        · skip
          have hkl : k < lk.length := by have := of_decide_eq_true hk; omega
          have hkn : lk.length - (k + 1) < lk.length := by omega
          have hsub : (lk.length : Int) - 1 - k = ((lk.length - (k + 1) : Nat) : Int) := by omega
          rw [hsub]
          have hgk : lk.getD (lk.length - (k + 1)) 0 = lk[lk.length - (k + 1)] := by rw [List.getD_eq_getElem?_getD, List.getElem?_eq_getElem hkn]; rfl
          obtain ⟨gl, ol, hLA, hcl⟩ := (LR.ext (Ext.trans (Ext.trans (Ext.trans (Ext.trans (Ext.trans (Ext.trans (Ext.trans (Ext.trans (Ext.trans E4 E5) E7) E8) E9) E_w) E_j2) F1) E_o) E_k)).at (by omega) hkn
          refine xp_skip ?_
          refine xp_seq ?_
          refine xp_block ?_
          refine xp_seq ?_
          refine xp_dw [] rfl rfl rfl ?_
          refine dw_pure (i := 0) rfl (by decide +kernel) (pv_move (v := .slice _ _ _) rfl) ?_
          refine dw_pure (i := 1) rfl (by decide +kernel) (pv_move (v := .int .i64 _) rfl) ?_
          refine dw_pure (i := 2) rfl (by decide +kernel) (pv_indexE rfl hLA rfl rfl rfl (by omega) (by omega)) ?_
          refine dw_load (i := 3) rfl (by decide +kernel) ?_
          refine op_load (v := .int .i64 _) rfl rfl ((hcl) 0 _ rfl) ?_
          refine dw_pure (i := 4) rfl (by decide +kernel) (pv_fieldAddr rfl rfl rfl rfl 2 rfl) ?_
          refine dw_load (i := 5) rfl (by decide +kernel) ?_
          refine op_loadP 2 (v := .slice _ _ _) rfl rfl rfl rfl ?_
          refine dw_pure (i := 6) rfl (by decide +kernel) (pv_move (v := .int .i64 _) rfl) ?_
          refine dw_pure (i := 7) rfl (by decide +kernel) (pv_indexE rfl hFA rfl rfl rfl (by omega) (by omega)) ?_
          refine dw_load (i := 8) rfl (by decide +kernel) ?_
          refine op_load (v := .int .i64 _) rfl rfl ((hcf1.ext E_k) 0 _ rfl) ?_
          refine dw_pure (i := 9) rfl (by decide +kernel) (pv_of (v := .bool _) rfl) ?_
          refine dw_end rfl ?_
          refine xp_cond rfl (fun hge => ?_) (fun hge => ?_)
          · skip
            have hge' : lk[lk.length - (k + 1)] ≥ (f : Int) := of_decide_eq_true hge
            refine xp_region rfl ?_
            refine op_pure (pv_move (v := .slice _ _ _) rfl) ?_
            refine op_pure (pv_move (v := .int .i64 _) rfl) ?_
            refine op_pure (pv_indexE rfl hLA rfl rfl rfl (by omega) (by omega)) ?_
            refine op_load (v := .int .i64 _) rfl rfl ((hcl) 0 _ rfl) ?_
            refine op_pure (pv_assign (v := .int .i64 _) rfl) ?_
            refine xp_region rfl ?_
            refine op_pure (pv_move (v := .int .i64 _) rfl) ?_
            refine op_pure (pv_arith rfl (by omega)) ?_
            refine op_pure (pv_assign (v := .int .i64 _) rfl) ?_
            refine ⟨k + 1, ⟨intE (by omega), intE (by rw [seenK, hgk, if_pos hge']), trivial⟩, rfl, rfl, E_k, fun h3 E3 => by omega, by first | omega | (dsimp only; omega), ?_⟩
            repeat (first | exact off_base _ _ _ | refine off_upd (by decide) ?_ | refine off_updL rfl ?_ | refine off_mix rfl ?_)
          · skip
            have hge' : ¬ lk[lk.length - (k + 1)] ≥ (f : Int) := of_decide_eq_false hge
            refine xp_skip ?_
            refine xp_region rfl ?_
            refine op_pure (pv_move (v := .int .i64 _) rfl) ?_
            refine op_pure (pv_arith rfl (by omega)) ?_
            refine op_pure (pv_assign (v := .int .i64 _) rfl) ?_
            refine ⟨k + 1, ⟨intE (by omega), intE (by rw [seenK, hgk, if_neg hge']), trivial⟩, rfl, rfl, E_k, fun h3 E3 => by omega, by first | omega | (dsimp only; omega), ?_⟩
            repeat (first | exact off_base _ _ _ | refine off_upd (by decide) ?_ | refine off_updL rfl ?_ | refine off_mix rfl ?_)
        · skip
          have hke : k = lk.length := by have := of_decide_eq_false hk; omega
          subst hke
          have hseen := seenK_eq la (n := (s.heats.length : Int)) (fun i hi => (lb i hi).2) (f : Int) lk.length (Nat.le_refl _)
          rw [Nat.sub_self, List.drop_zero] at hseen
          have hmem : ((f : Nat) : Int) ∈ listM (failsM s j2) := mem_listN.2 ⟨f, rfl, by omega, e3⟩
          have hwj : j2 < wf.length := by omega
          have hwfe : wf[j2] = firstM s j2 := by simp [← hwf]
          obtain ⟨gG, oG, hGA, hcG⟩ := (GR.ext (Ext.trans (Ext.trans (Ext.trans (Ext.trans (Ext.trans (Ext.trans E8 E9) E_w) E_j2) F1) E_o) E_k)).at (by omega) hwj
          rw [hwfe] at hcG
          have ft := first_true h6 hF hfate hjn
          have hr : rightM (firstM s j2) (isT fs s.heats.length j2 s.joints.length) = true := by
            unfold firstM
            exact right_verdict ft.1 ft.2
          refine xp_exit ?_
          refine xp_seq ?_
          refine xp_region rfl ?_
          refine op_pure (pv_move (v := .int .i64 _) rfl) ?_
          refine op_pure (pv_of (v := .bool _) rfl) ?_
          refine op_pure (pv_move (v := .bool _) rfl) ?_
          refine guard_yes rfl rfl ?_
          refine op_pure (pv_move (v := .slice _ _ _) rfl) ?_
          refine guard_yes rfl rfl ?_
          refine op_pure (pv_fieldAddr rfl rfl rfl rfl 2 rfl) ?_
          refine guard_yes rfl rfl ?_
          refine op_loadP 2 (v := .slice _ _ _) rfl rfl rfl rfl ?_
          refine guard_yes rfl rfl ?_
          refine op_pure (pv_move (v := .int .i64 _) rfl) ?_
          refine guard_yes rfl rfl ?_
          refine op_pure (pv_indexE rfl hFA rfl rfl rfl (by omega) (by omega)) ?_
          refine guard_yes rfl rfl ?_
          refine op_load (v := .int .i64 _) rfl rfl ((hcf1.ext E_k) 0 _ rfl) ?_
          refine guard_yes rfl rfl ?_
          refine op_fn (caps := []) (vs := [.slice _ _ _, .int .i64 _]) rfl rfl rfl (place_ok (listM (failsM s j2)) (f : Int) QA qc h_k (QR.ext (Ext.trans E_o E_k)) (Nat.lt_of_le_of_lt (listN_len _ _) (by decide))) ?_
          rintro _ g3 F3 ⟨ip, rfl, hip⟩
          have hip' : decide (ip < 0) = false := decide_eq_false (by have := hip.2 hmem; omega)
          refine guard_yes rfl rfl ?_
          refine op_pure (pv_of (v := .bool _) rfl) ?_
          refine op_pure (pv_pickF rfl rfl (v := .bool _) rfl) ?_
          refine op_pure (pv_move (v := .bool _) rfl) ?_
          refine guard_yes rfl hip' ?_
          refine op_pure (pv_move (v := .slice _ _ _) rfl) ?_
          refine guard_yes rfl hip' ?_
          refine op_pure (pv_move (v := .int .i64 _) rfl) ?_
          refine guard_yes rfl hip' ?_
          refine op_pure (pv_indexE rfl hGA rfl rfl rfl (by omega) (by omega)) ?_
          refine guard_yes rfl hip' ?_
          refine op_load (v := .int .i64 _) rfl rfl ((hcG.ext F3) 0 _ rfl) ?_
          refine guard_yes rfl hip' ?_
          refine op_pure (pv_move (v := .bool _) rfl) ?_
          refine guard_yes rfl hip' ?_
          have HR := right_ok (firstM s j2) (isT fs s.heats.length j2 s.joints.length) g3
          rw [hr] at HR
          refine op_fn (caps := []) (vs := [.int .i64 _, .bool _]) rfl rfl rfl (HR) ?_
          rintro _ g4 F4 rfl
          refine guard_yes rfl hip' ?_
          refine op_pure (pv_of (v := .bool _) rfl) ?_
          refine op_pure (pv_pickF rfl hip' (v := .bool _) rfl) ?_
          refine op_pure (pv_move (v := .bool _) rfl) ?_
          refine guard_yes rfl rfl ?_
          refine op_pure (pv_fieldAddr rfl rfl rfl rfl 2 rfl) ?_
          refine guard_yes rfl rfl ?_
          refine op_loadP 2 (v := .slice _ _ _) rfl rfl rfl rfl ?_
          refine guard_yes rfl rfl ?_
          refine op_pure (pv_move (v := .int .i64 _) rfl) ?_
          refine guard_yes rfl rfl ?_
          refine op_pure (pv_indexE rfl hFA rfl rfl rfl (by omega) (by omega)) ?_
          refine guard_yes rfl rfl ?_
          refine op_load (v := .int .i64 _) rfl rfl ((hcf1.ext (Ext.trans (Ext.trans E_k F3) F4)) 0 _ rfl) ?_
          refine guard_yes rfl rfl ?_
          refine op_pure (pv_move (v := .int .i64 _) rfl) ?_
          refine guard_yes rfl rfl ?_
          refine op_pure (pv_of (v := .bool _) rfl) ?_
          refine guard_yes rfl rfl ?_
          refine op_pure (pv_move (v := .bool _) rfl) ?_
          rcases Bool.eq_false_or_eq_true (decide ((f : Int) ≤ (s.heats.length : Int) - 1)) with hfl' | hfl'
          · skip
            have hfl2 : (f : Int) ≤ (s.heats.length : Int) - 1 := of_decide_eq_true hfl'
            have hun2 := unseenOf_ge (n := (s.heats.length : Int)) (ins := lk) (listM (failingM s)) (failing_has h6 hjn e3 (by omega))
            rw [hun] at hun2
            have hsb := lookAt_bd (f : Int) lk (s.heats.length : Int)
            refine guard_yes rfl hfl' ?_
            refine op_pure (pv_move (v := .int .i64 _) rfl) ?_
            refine guard_yes rfl hfl' ?_
            refine op_pure (pv_fieldAddr rfl rfl rfl rfl 2 rfl) ?_
            refine guard_yes rfl hfl' ?_
            refine op_loadP 2 (v := .slice _ _ _) rfl rfl rfl rfl ?_
            refine guard_yes rfl hfl' ?_
            refine op_pure (pv_move (v := .int .i64 _) rfl) ?_
            refine guard_yes rfl hfl' ?_
            refine op_pure (pv_indexE rfl hFA rfl rfl rfl (by omega) (by omega)) ?_
            refine guard_yes rfl hfl' ?_
            refine op_load (v := .int .i64 _) rfl rfl ((hcf1.ext (Ext.trans (Ext.trans E_k F3) F4)) 0 _ rfl) ?_
            refine guard_yes rfl hfl' ?_
            refine op_pure (pv_arith rfl (by omega)) ?_
            refine guard_yes rfl hfl' ?_
            refine op_pure (pv_move (v := .int .i64 _) rfl) ?_
            refine guard_yes rfl hfl' ?_
            refine op_pure (pv_of (v := .bool _) rfl) ?_
            refine guard_yes rfl rfl ?_
            refine op_pure (pv_pickT rfl hfl' (v := .bool _) rfl) ?_
            refine op_pure (pv_pickF rfl rfl (v := .bool _) rfl) ?_
            refine xp_condF rfl ((decide_eq_false (by rw [hseen]; omega))) ?_
            refine xp_skip ?_
            refine xp_region rfl ?_
            refine op_pure (pv_move (v := .int .i64 _) rfl) ?_
            refine op_pure (pv_arith rfl (by omega)) ?_
            refine op_pure (pv_assign (v := .int .i64 _) rfl) ?_
            refine ⟨j2 + 1, ⟨rfl, trivial⟩, rfl, rfl, (Ext.trans (Ext.trans (Ext.trans (Ext.trans (Ext.trans E_j2 F1) E_o) E_k) F3) F4), fun h3 E3 => by omega, by first | omega | (dsimp only; omega), ?_⟩
            repeat (first | exact off_base _ _ _ | refine off_upd (by decide) ?_ | refine off_updL rfl ?_ | refine off_mix rfl ?_)
          · skip
            refine guard_no rfl hfl' ?_
            refine guard_no rfl hfl' ?_
            refine guard_no rfl hfl' ?_
            refine guard_no rfl hfl' ?_
            refine guard_no rfl hfl' ?_
            refine guard_no rfl hfl' ?_
            refine guard_no rfl hfl' ?_
            refine guard_no rfl hfl' ?_
            refine guard_no rfl hfl' ?_
            refine guard_yes rfl rfl ?_
            refine op_pure (pv_pickF rfl hfl' (v := .bool _) rfl) ?_
            refine op_pure (pv_pickF rfl rfl (v := .bool _) rfl) ?_
            refine xp_condF rfl (rfl) ?_
            refine xp_skip ?_
            refine xp_region rfl ?_
            refine op_pure (pv_move (v := .int .i64 _) rfl) ?_
            refine op_pure (pv_arith rfl (by omega)) ?_
            refine op_pure (pv_assign (v := .int .i64 _) rfl) ?_
            refine ⟨j2 + 1, ⟨rfl, trivial⟩, rfl, rfl, (Ext.trans (Ext.trans (Ext.trans (Ext.trans (Ext.trans E_j2 F1) E_o) E_k) F3) F4), fun h3 E3 => by omega, by first | omega | (dsimp only; omega), ?_⟩
            repeat (first | exact off_base _ _ _ | refine off_upd (by decide) ?_ | refine off_updL rfl ?_ | refine off_mix rfl ?_)
    · skip
      refine xp_exit ?_
      refine xp_seq ?_
      refine xp_region rfl ?_
      refine op_fn (caps := []) (vs := []) rfl rfl rfl (warm_ok h_j2) ?_
      rintro _ k9 Q9 rfl
      refine op_pure (pv_assign (v := .bool _) rfl) ?_
      refine xp_ret ?_
      exact ⟨rfl, fun V => (Ext.trans (Ext.trans (Ext.trans (Ext.trans (Ext.trans (Ext.trans (Ext.trans (Ext.trans (Ext.trans (Ext.trans (Ext.trans E1 E2) E3) E4) E5) E7) E8) E9) E_w) E_j2) Q9) (ext_wl V)), rfl⟩
end Go.Proofs.Ytndfkbapoinmkaa
