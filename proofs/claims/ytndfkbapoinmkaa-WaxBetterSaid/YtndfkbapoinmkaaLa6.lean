/- An own logic over the model, its walks and its plain laws, joined of parts Tk Tl W37 W38 Tm W39 W40 W41 Tn W42 To W44 Tp Tq W45. Conditions: as each theorem states. -/
import Derived.Test.YtndfkbapoinmkaaLa5
set_option linter.all false
/- Plain: warmer and colder weather. Conditions: as each theorem states. -/
namespace Go.Wx
open Go Go.HL
theorem coldM_pre (y : Sky) (c : Int) (m : Nat) : ∀ d i, i < (coldM y c m).length → (coldM y c (m + d))[i]? = (coldM y c m)[i]?
  | 0, i, _ => rfl
  | d + 1, i, h => by
    have ih := coldM_pre y c m d i h
    have hl : i < (coldM y c (m + d)).length := by
      rw [List.getElem?_eq_getElem h] at ih
      exact (List.getElem?_eq_some_iff.1 ih).1
    rw [← Nat.add_assoc, coldM_succ]
    split
    · rw [List.getElem?_append_left hl, ih]
    · exact ih
theorem coldM_more {x y : Sky} {c : Int} : ∀ n, (∀ w, w < n → y.at w ≤ x.at w) → (coldM x c n).length ≤ (coldM y c n).length
  | 0, _ => Nat.le_refl _
  | n + 1, h => by
    have ih := coldM_more (c := c) n fun w hw => h w (by omega)
    have hn := h n (by omega)
    rw [coldM_succ, coldM_succ]
    split
    · rw [if_pos (by omega)]; simp; exact ih
    · split
      · simp; omega
      · exact ih
theorem when1_le (x : Sky) (n : Nat) (c : Int) (many : Nat) : when1 x n c many ≤ n := by
  unfold when1
  split
  · rename_i h
    by_cases hm : many = 0
    · subst hm
      cases hc : coldM x c n with
      | nil => simp
      | cons z l =>
        obtain ⟨w, e, hw, _⟩ := coldM_mem (x := x) (c := c) (k := n) (z := z) (by rw [hc]; exact List.mem_cons_self ..)
        simp; omega
    · have hi : many - 1 < (coldM x c n).length := by omega
      obtain ⟨w, e, hw, _⟩ := coldM_mem (List.getElem_mem hi)
      rw [List.getD_eq_getElem?_getD, List.getElem?_eq_getElem hi]
      simp only [Option.getD_some]
      omega
  · exact Nat.le_refl _
theorem when1_mono {x y : Sky} {n : Nat} {c : Int} {many : Nat} (hm : 1 ≤ many) (h : ∀ w, w < n → y.at w ≤ x.at w) : when1 y n c many ≤ when1 x n c many := by
  by_cases hx : many ≤ (coldM x c n).length
  · have hi : many - 1 < (coldM x c n).length := by omega
    obtain ⟨w, e, hw, hc⟩ := coldM_mem (List.getElem_mem hi)
    have hget : (coldM x c n)[many - 1]? = some (w : Int) := by rw [List.getElem?_eq_getElem hi, e]
    have h3 := coldM_at x c w n hw hc
    have h4 := pair_inj (coldM_pair _ _ _) hget h3
    have hxl : many ≤ (coldM x c (w + 1)).length := by rw [coldM_succ, if_pos hc]; simp; omega
    have hyl : many ≤ (coldM y c (w + 1)).length := Nat.le_trans hxl (coldM_more (w + 1) fun q hq => h q (by omega))
    have hpre := coldM_pre y c (w + 1) (n - (w + 1)) (many - 1) (by omega)
    rw [show w + 1 + (n - (w + 1)) = n from by omega] at hpre
    have hj : many - 1 < (coldM y c (w + 1)).length := by omega
    obtain ⟨v, e2, hv, _⟩ := coldM_mem (List.getElem_mem hj)
    rw [List.getElem?_eq_getElem hj, e2] at hpre
    have hyn : many ≤ (coldM y c n).length := by have := (List.getElem?_eq_some_iff.1 hpre).1; omega
    have e3 : when1 y n c many = v := by
      unfold when1
      rw [if_pos hyn, List.getD_eq_getElem?_getD, hpre]
      simp
    have e4 : when1 x n c many = w := by
      unfold when1
      rw [if_pos hx, List.getD_eq_getElem?_getD, hget]
      simp
    omega
  · have e4 : when1 x n c many = n := by unfold when1; rw [if_neg hx]
    rw [e4]
    exact when1_le _ _ _ _
theorem when0_mono {x y : Sky} {n : Nat} {h : Int} (hn : n ≤ 6) (hxy : ∀ w, w < n → x.at w ≤ y.at w) : when0 y n h ≤ when0 x n h := by
  obtain ⟨a1, a2, _⟩ := when0_spec x n h hn
  obtain ⟨b1, _, b3⟩ := when0_spec y n h hn
  by_cases hc : when0 x n h < n
  · have := a2 hc
    have := hxy _ hc
    exact b3 _ hc (by omega)
  · omega
theorem when0_never {x : Sky} {n : Nat} {h : Int} (hn : n ≤ 6) (hx : ∀ w, w < n → x.at w < h) : when0 x n h = n := by
  obtain ⟨a1, a2, _⟩ := when0_spec x n h hn
  by_cases hc : when0 x n h < n
  · have := a2 hc; have := hx _ hc; omega
  · omega
theorem when1_never {x : Sky} {n : Nat} {c : Int} {many : Nat} (hm : 1 ≤ many) (hx : ∀ w, w < n → c < x.at w) : when1 x n c many = n := by
  have : coldM x c n = [] := by
    rw [List.eq_nil_iff_forall_not_mem]
    intro z hz
    obtain ⟨w, _, h1, h2⟩ := coldM_mem hz
    have := hx w h1
    omega
  unfold when1
  rw [this, if_neg (by simp; omega)]
theorem week_hot {x y : Sky} {n : Nat} {h c : Int} {many life : Nat} (hn : n ≤ 6) (hm : 1 ≤ many) (hx : ∀ w, w < n → c < x.at w) (hy : ∀ w, w < n → c < y.at w) (hxy : ∀ w, w < n → x.at w ≤ y.at w) : weekM y n h c many life ≤ weekM x n h c many life := by
  have := when0_mono (h := h) hn hxy
  unfold weekM
  rw [when1_never hm hx, when1_never hm hy]
  omega
theorem week_cold {x y : Sky} {n : Nat} {h c : Int} {many life : Nat} (hn : n ≤ 6) (hm : 1 ≤ many) (hx : ∀ w, w < n → x.at w < h) (hy : ∀ w, w < n → y.at w < h) (hxy : ∀ w, w < n → y.at w ≤ x.at w) : weekM y n h c many life ≤ weekM x n h c many life := by
  have := when1_mono (c := c) hm hxy
  unfold weekM
  rw [when0_never hn hx, when0_never hn hy]
  omega
theorem harderS_heats (s : Season) (k a z d : Int) : (harderS s k a z d).heats.length = s.heats.length := by
  unfold harderS
  split
  · rename_i h
    subst h
    show (harderW s 1 a z d).length = _
    unfold harderW weatherM
    rw [if_pos rfl, raisedN_len]
  · rfl
theorem harderS_joints (s : Season) (k a z d : Int) : (harderS s k a z d).joints = s.joints := by unfold harderS; split <;> rfl
theorem harderS_reports (s : Season) (k a z d : Int) : (harderS s k a z d).reports = [] := by unfold harderS; split <;> rfl
theorem harderS_weather (s : Season) {k n : Int} (hk : k = 1 ∨ k = 2) (hn : n = 1 ∨ n = 2) (a z d : Int) : weatherM (harderS s k a z d) n = if n = k then harderW s k a z d else weatherM s n := by
  unfold harderS weatherM
  rcases hk with rfl | rfl <;> rcases hn with rfl | rfl <;> rfl
theorem harder_twice (s : Season) {k : Int} (hk : k = 1 ∨ k = 2) (a z d e : Int) : harderS (harderS s k a z d) k a z e = harderS s k a z (d + e) := by
  have hw : harderW (harderS s k a z d) k a z e = harderW s k a z (d + e) := by
    unfold harderW
    rw [harderS_weather s hk hk, if_pos rfl]
    unfold harderW
    exact raisedN_twice _ _ _ _ _
  rcases hk with rfl | rfl
  · rw [harderS, if_pos rfl, hw]; rfl
  · rw [harderS, if_neg (by decide), hw]; rfl
theorem mem_harderW {s : Season} {k a z d : Int} {r : Rg} (h : r ∈ harderW s k a z d) : ∃ q ∈ weatherM s k, r = upR q d ∨ r = q := by
  obtain ⟨i, hi⟩ := List.mem_iff_getElem?.1 h
  unfold harderW at hi
  rw [raisedN_get] at hi
  cases hq : (weatherM s k)[i]? with
  | none => rw [hq] at hi; cases hi
  | some q =>
    rw [hq] at hi
    refine ⟨q, List.mem_of_getElem? hq, ?_⟩
    simp only [Option.map_some, Option.some.injEq] at hi
    split at hi
    · exact .inl hi.symm
    · exact .inr hi.symm
/-- Weather far from its bounds. -/
def MildW (s : Season) (m : Int) : Prop := ∀ n, ∀ r ∈ weatherM s n, -50 + m ≤ r.mn ∧ r.mx ≤ 100 - m
theorem MildW.harder {s : Season} {m d : Int} (M : MildW s m) {k : Int} (hk : k = 1 ∨ k = 2) (a z : Int) {m' : Int} (h1 : m' + d ≤ m) (h2 : m' - d ≤ m) (h3 : m' ≤ m) : MildW (harderS s k a z d) m' := by
  intro n r hr
  have key : ∀ n, (n = 1 ∨ n = 2) → ∀ r ∈ weatherM (harderS s k a z d) n, -50 + m' ≤ r.mn ∧ r.mx ≤ 100 - m' := by
    intro n hn r hr
    rw [harderS_weather s hk hn] at hr
    split at hr
    · obtain ⟨q, hq, rfl | rfl⟩ := mem_harderW hr
      · have := M k q hq
        simp only [upR]
        omega
      · have := M k r hq; omega
    · have := M n r hr; omega
  by_cases hn : n = 1
  · exact key n (.inl hn) r hr
  · refine key 2 (.inr rfl) r ?_
    unfold weatherM at hr ⊢
    rw [if_neg hn] at hr
    rw [if_neg (by decide)]
    exact hr
theorem harder_check {s : Season} (c : CheckS s) {m d : Int} (M : MildW s m) {k : Int} (hk : k = 1 ∨ k = 2) (a z : Int) (h1 : d ≤ m) (h2 : -d ≤ m) : CheckS (harderS s k a z d) := by
  have hw : ∀ n, (n = 1 ∨ n = 2) → ∀ r ∈ weatherM (harderS s k a z d) n, checkWeatherM r = 0 := by
    have hb : ∀ n, (n = 1 ∨ n = 2) → ∀ r ∈ weatherM s n, checkWeatherM r = 0 := by
      rintro n (rfl | rfl) r hr
      · exact c.h r hr
      · exact c.d r hr
    intro n hn r hr
    rw [harderS_weather s hk hn] at hr
    split at hr
    · rename_i hnk
      obtain ⟨q, hq, rfl | rfl⟩ := mem_harderW hr
      · have h3 := M k q hq
        have h4 := checkWeather_iff.1 (hb k hk q hq)
        refine checkWeather_iff.2 ?_
        simp only [upR]
        omega
      · exact hb k hk r hq
    · exact hb n hn r hr
  have hl := harderS_heats s k a z d
  have hdl : (harderS s k a z d).damps.length = s.damps.length := by
    unfold harderS
    split
    · rfl
    · rename_i h
      show (harderW s k a z d).length = _
      unfold harderW weatherM
      rw [if_neg h, raisedN_len]
  refine ⟨by rw [hl]; exact c.w1, by rw [hl]; exact c.w6, by rw [hl, hdl]; exact c.dl, hw 1 (.inl rfl), hw 2 (.inr rfl), by rw [harderS_joints]; exact c.j3, by rw [harderS_joints]; exact c.j, by rw [harderS_reports]; exact Nat.zero_le _, by rw [harderS_reports]; intro r h; cases h⟩
theorem harder_fine {s : Season} (c : CheckS s) {m d : Int} (M : MildW s m) {k a z : Int} (hk : k = 1 ∨ k = 2) (ha : 0 ≤ a) (haz : a ≤ z) (hz : z < s.heats.length) (h1 : d ≤ m) (h2 : -d ≤ m) (h3 : -150 ≤ d ∧ d ≤ 150) : harderE s k a z d = 0 ∧ harderV s k a z d = harderS s k a z d := by
  have e : harderE s k a z d = 0 := by
    have hany : (harderW s k a z d).any outR = false := by
      rw [Bool.eq_false_iff]
      intro h
      obtain ⟨r, hr, ho⟩ := List.any_eq_true.1 h
      have hcw : checkWeatherM r = 0 := by
        have hc := harder_check c M hk a z h1 h2
        have hw : r ∈ weatherM (harderS s k a z d) k := by rw [harderS_weather s hk hk, if_pos rfl]; exact hr
        rcases hk with rfl | rfl
        · exact hc.h r hw
        · exact hc.d r hw
      have := checkWeather_iff.1 hcw
      unfold outR inM at ho
      simp at ho
      omega
    unfold harderE inM
    rw [if_neg (by rw [c.ok]; decide), if_neg (by simp; omega), if_neg (by simp; omega), if_neg (by simp; omega), if_neg (by omega), if_neg (by simp; omega), hany]
    rfl
  exact ⟨e, by rw [harderV, if_pos e]⟩
/-- Each weather of the one season has one of the other, shifted. -/
theorem shift_to {s : Season} (c : CheckS s) {k n a z d : Int} (hk : k = 1 ∨ k = 2) (hn : n = 1 ∨ n = 2) (ha : 0 ≤ a) (haz : a ≤ z) (hz : z < s.heats.length) {x : Sky} (hx : x ∈ allSkies s n) : ∃ y, y ∈ allSkies (harderS s k a z d) n ∧ ∀ w, w < 6 → y.at w = x.at w + if n = k ∧ a.toNat ≤ w ∧ w < (z + 1).toNat then d else 0 := by
  have hwl : ∀ n, (weatherM s n).length = s.heats.length := by
    intro n; unfold weatherM; split
    · rfl
    · exact c.dl
  have h6 := c.w6
  rw [mem_allSkies (by rw [hwl]; exact h6)] at hx
  have hwl2 : (weatherM (harderS s k a z d) n).length = s.heats.length := by
    rw [harderS_weather s hk hn]
    split
    · unfold harderW; rw [raisedN_len, hwl]
    · exact hwl n
  refine ⟨skyF fun w => x.at w + if n = k ∧ a.toNat ≤ w ∧ w < (z + 1).toNat then d else 0, ?_, fun w hw => skyF_at _ w hw⟩
  rw [mem_allSkies (by rw [hwl2]; exact h6), hwl2]
  constructor
  · intro i r hr
    have hi := (List.getElem?_eq_some_iff.1 hr).1
    rw [hwl2] at hi
    rw [skyF_at _ i (by omega)]
    rw [harderS_weather s hk hn] at hr
    by_cases hnk : n = k
    · rw [if_pos hnk] at hr
      unfold harderW at hr
      rw [raisedN_get] at hr
      cases hq : (weatherM s k)[i]? with
      | none => rw [hq] at hr; cases hr
      | some q =>
        rw [hq] at hr
        simp only [Option.map_some, Option.some.injEq] at hr
        have := hx.1 i q (by rw [hnk]; exact hq)
        by_cases hc : a.toNat ≤ i ∧ i < (z + 1).toNat
        · rw [if_pos hc] at hr
          rw [if_pos ⟨hnk, hc⟩, ← hr]
          simp only [upR]
          omega
        · rw [if_neg hc] at hr
          rw [if_neg (fun h => hc h.2), ← hr]
          omega
    · rw [if_neg hnk] at hr
      rw [if_neg (fun h => hnk h.1)]
      have := hx.1 i r hr
      omega
  · intro i hi hl
    rw [skyF_at _ i hi, hx.2 i hi (by rw [hwl]; exact hl), if_neg (by omega)]
    rfl
theorem shift_back {s : Season} (c : CheckS s) {m : Int} (hr : s.reports = []) (M : MildW s m) {k n a z d : Int} (hk : k = 1 ∨ k = 2) (hn : n = 1 ∨ n = 2) (ha : 0 ≤ a) (haz : a ≤ z) (hz : z < s.heats.length) (h1 : d ≤ m) (h2 : -d ≤ m) {y : Sky} (hy : y ∈ allSkies (harderS s k a z d) n) : ∃ x, x ∈ allSkies s n ∧ ∀ w, w < 6 → x.at w = y.at w + if n = k ∧ a.toNat ≤ w ∧ w < (z + 1).toNat then -d else 0 := by
  obtain ⟨x, hx, e⟩ := shift_to (k := k) (d := -d) (harder_check c M hk a z h1 h2) hk hn ha haz (by rw [harderS_heats]; exact hz) hy
  refine ⟨x, ?_, e⟩
  rw [harder_twice s hk] at hx
  have h0 : weatherM (harderS s k a z (d + -d)) n = weatherM s n := by
    rw [harderS_weather s hk hn]
    split
    · rename_i h
      subst h
      unfold harderW
      apply List.ext_getElem?
      intro i
      rw [raisedN_get]
      cases (weatherM s n)[i]? with
      | none => rfl
      | some q =>
        simp only [Option.map_some, upR]
        rw [show d + -d = 0 from by omega, Int.add_zero, Int.add_zero, ite_self]
    · rfl
  unfold allSkies at hx ⊢
  rw [h0] at hx
  exact hx
/-- The joints of the law on warmer weather. -/
def hotJ (i : Nat) (j : Joint) : Joint := if i % 2 = 0 then { j with life := ⟨9, 9⟩, low := ⟨-50, -50⟩ } else { j with life := ⟨9, 9⟩, high := ⟨100, 100⟩ }
def hotL (js : List Joint) (k : Nat) : List Joint := js.mapIdx fun i j => if i < k then hotJ i j else j
theorem hotL_len (js : List Joint) (k : Nat) : (hotL js k).length = js.length := by simp [hotL]
theorem hotL_zero (js : List Joint) : hotL js 0 = js := by
  apply List.ext_getElem?
  intro i
  unfold hotL
  rw [List.getElem?_mapIdx]
  cases js[i]? <;> rfl
theorem hotL_get (js : List Joint) (k i : Nat) : (hotL js k)[i]? = (js[i]?).map fun j => if i < k then hotJ i j else j := by unfold hotL; rw [List.getElem?_mapIdx]
theorem hotL_succ {js : List Joint} {k : Nat} (hk : k < js.length) : (hotL js k).set k (hotJ k js[k]) = hotL js (k + 1) := by
  apply List.ext_getElem?
  intro i
  rw [List.getElem?_set, hotL_get, hotL_get, hotL_len]
  by_cases hi : k = i
  · subst hi
    simp [hk]
  · rw [if_neg hi]
    cases js[i]? with
    | none => rfl
    | some j =>
      simp only [Option.map_some]
      congr 1
      by_cases h : i < k
      · rw [if_pos h, if_pos (by omega)]
      · rw [if_neg h, if_neg (by omega)]
def hotS (s : Season) : Season := ⟨s.heats, s.damps, hotL s.joints s.joints.length, []⟩
theorem hotS_at {s : Season} {i : Nat} {j : Joint} (h : (hotS s).joints[i]? = some j) : ∃ q, s.joints[i]? = some q ∧ j = hotJ i q := by
  unfold hotS at h
  simp only at h
  rw [hotL_get] at h
  cases hq : s.joints[i]? with
  | none => rw [hq] at h; cases h
  | some q =>
    rw [hq] at h
    have hl := (List.getElem?_eq_some_iff.1 hq).1
    simp only [Option.map_some, Option.some.injEq] at h
    rw [if_pos hl] at h
    exact ⟨q, rfl, h.symm⟩
theorem hotS_check {s : Season} (c : CheckS s) : CheckS (hotS s) := by
  refine ⟨c.w1, c.w6, c.dl, c.h, c.d, by show (hotL _ _).length ≤ 3; rw [hotL_len]; exact c.j3, fun j hj => ?_, Nat.zero_le _, fun r h => (by cases h)⟩
  obtain ⟨i, hi⟩ := List.mem_iff_getElem?.1 hj
  obtain ⟨q, hq, rfl⟩ := hotS_at hi
  have hc := c.j q (List.mem_of_getElem? hq)
  unfold checkJointM at hc
  split at hc
  · cases hc
  · rename_i h0
    split at hc
    · rename_i h1; exact absurd hc h1
    · rename_i h1
      split at hc
      · rename_i h2; exact absurd hc h2
      · rename_i h2
        split at hc
        · rename_i h3; exact absurd hc h3
        · rename_i h3
          have w50 : checkWeatherM ⟨-50, -50⟩ = 0 := by decide
          have w100 : checkWeatherM ⟨100, 100⟩ = 0 := by decide
          have l9 : checkRangeM ⟨9, 9⟩ 0 9 = 0 := by decide
          by_cases he : i % 2 = 0
          · rw [hotJ, if_pos he, checkJointM, if_neg h0, if_neg h1, if_neg (by rw [w50]; decide), if_neg h3]; exact l9
          · rw [hotJ, if_neg he, checkJointM, if_neg h0, if_neg (by rw [w100]; decide), if_neg h2, if_neg h3]; exact l9
theorem sky_between {s : Season} (c : CheckS s) {m : Int} (M : MildW s m) {n : Int} {x : Sky} (hx : x ∈ allSkies s n) : ∀ w, w < s.heats.length → -50 + m ≤ x.at w ∧ x.at w ≤ 100 - m := by
  have hwl : (weatherM s n).length = s.heats.length := by
    unfold weatherM; split
    · rfl
    · exact c.dl
  intro w hw
  have hi : w < (weatherM s n).length := by omega
  have h1 := ((mem_allSkies (by rw [hwl]; exact c.w6)).1 hx).1 w _ (List.getElem?_eq_getElem hi)
  have h2 := M n _ (List.getElem_mem hi)
  omega
/-- Warmer or colder weather: a joint that only it harms fails no later. -/
theorem hot_later {s : Season} (c : CheckS s) {m : Int} (M : MildW s m) (hm : 20 ≤ m) {k a z d : Int} (hk : k = 1 ∨ k = 2) (ha : 0 ≤ a) (haz : a ≤ z) (hz : z < s.heats.length) (hd : -8 ≤ d ∧ d ≤ 8) {i : Nat} (hi : i < s.joints.length) (hs : if i % 2 = 0 then 0 ≤ d else d ≤ 0) :
    (∀ w, w < 7 → (failsM (hotS s) i).testBit w = true → ∃ w', w' ≤ w ∧ (failsM (harderS (hotS s) k a z d) i).testBit w' = true) ∧ (∀ w', w' < 7 → (failsM (harderS (hotS s) k a z d) i).testBit w' = true → ∃ w, w' ≤ w ∧ w < 7 ∧ (failsM (hotS s) i).testBit w = true) := by
  have C := hotS_check c
  have Mh : MildW (hotS s) m := M
  have CU := harder_check C Mh hk a z (d := d) (by omega) (by omega)
  have MU : MildW (harderS (hotS s) k a z d) 2 := Mh.harder hk a z (by omega) (by omega) (by omega)
  have h6 := c.w6
  have hil : i < (hotS s).joints.length := by show i < (hotL _ _).length; rw [hotL_len]; exact hi
  have hj : (hotS s).joints[i]? = some (hotS s).joints[i] := List.getElem?_eq_getElem hil
  obtain ⟨q, hq, ej⟩ := hotS_at hj
  have hju : (harderS (hotS s) k a z d).joints[i]? = some (hotS s).joints[i] := by rw [harderS_joints]; exact hj
  obtain ⟨j, hje⟩ : ∃ j, (hotS s).joints[i] = j := ⟨_, rfl⟩
  rw [hje] at hj hju ej
  have JB := checkJointM_zero (C.j j (List.mem_of_getElem? hj))
  have hlen : (harderS (hotS s) k a z d).heats.length = s.heats.length := harderS_heats _ _ _ _ _
  have hlen0 : (hotS s).heats.length = s.heats.length := rfl
  -- the two weathers, one against the other
  have main : ∀ (x y : Sky), (∀ w, w < s.heats.length → -50 + 2 ≤ x.at w ∧ x.at w ≤ 100 - 2) → (∀ w, w < s.heats.length → -50 + 2 ≤ y.at w ∧ y.at w ≤ 100 - 2) → (∀ w, w < s.heats.length → if i % 2 = 0 then x.at w ≤ y.at w else y.at w ≤ x.at w) →
      ∀ h cc many life : Int, (j.high.mn ≤ h ∧ h ≤ j.high.mx) → (j.low.mn ≤ cc ∧ cc ≤ j.low.mx) → (j.weeks.mn ≤ many ∧ many ≤ j.weeks.mx) → weekM y s.heats.length h cc many.toNat life.toNat ≤ weekM x s.heats.length h cc many.toNat life.toNat := by
    intro x y bx byy hxy h cc many life a1 a2 a3
    have w1 := JB.1.w1
    by_cases he : i % 2 = 0
    · rw [ej] at a2
      unfold hotJ at a2
      rw [if_pos he] at a2
      refine week_hot (by omega) (by omega) (fun w hw => ?_) (fun w hw => ?_) (fun w hw => ?_)
      · have := bx w hw; dsimp only at a2; omega
      · have := byy w hw; dsimp only at a2; omega
      · have := hxy w hw; rw [if_pos he] at this; exact this
    · rw [ej] at a1
      unfold hotJ at a1
      rw [if_neg he] at a1
      refine week_cold (by omega) (by omega) (fun w hw => ?_) (fun w hw => ?_) (fun w hw => ?_)
      · have := bx w hw; dsimp only at a1; omega
      · have := byy w hw; dsimp only at a1; omega
      · have := hxy w hw; rw [if_neg he] at this; exact this
  constructor
  · intro w _ hb
    obtain ⟨x, hx, h, cc, many, life, a1, a2, a3, a4, e⟩ := (bare_bit C rfl hj w).1 hb
    obtain ⟨y, hy, sh⟩ := shift_to (d := d) C hk JB.2 ha haz hz hx
    have bx := sky_between C Mh hx
    have byy := sky_between CU MU hy
    rw [hlen] at byy
    refine ⟨_, ?_, (bare_bit CU (harderS_reports _ _ _ _ _) hju _).2 ⟨y, hy, h, cc, many, life, a1, a2, a3, a4, rfl⟩⟩
    rw [hlen, ← e]
    refine main x y (fun w hw => by have := bx w hw; omega) (fun w hw => byy w hw) (fun w hw => ?_) h cc many life a1 a2 a3
    have e2 := sh w (by omega)
    by_cases he : i % 2 = 0
    · rw [if_pos he] at hs ⊢
      rw [e2]; split <;> omega
    · rw [if_neg he] at hs ⊢
      rw [e2]; split <;> omega
  · intro w _ hb
    obtain ⟨y, hy, h, cc, many, life, a1, a2, a3, a4, e⟩ := (bare_bit CU (harderS_reports _ _ _ _ _) hju w).1 hb
    obtain ⟨x, hx, sh⟩ := shift_back C rfl Mh hk JB.2 ha haz hz (by omega) (by omega) hy
    have bx := sky_between C Mh hx
    have byy := sky_between CU MU hy
    rw [hlen] at byy e
    refine ⟨_, ?_, ?_, (bare_bit C rfl hj _).2 ⟨x, hx, h, cc, many, life, a1, a2, a3, a4, rfl⟩⟩
    · rw [← e]
      refine main x y (fun w hw => by have := bx w hw; omega) (fun w hw => byy w hw) (fun w hw => ?_) h cc many life a1 a2 a3
      have e2 := sh w (by omega)
      by_cases he : i % 2 = 0
      · rw [if_pos he] at hs ⊢
        rw [e2]; split <;> omega
      · rw [if_neg he] at hs ⊢
        rw [e2]; split <;> omega
    · have := weekM_le x (hotS s).heats.length h cc many.toNat life.toNat
      omega
end Go.Wx
/- Plain: seasons with a report more, and without some. Conditions: as each theorem states. -/
namespace Go.Wx
open Go Go.HL
def withS (s : Season) (r : Seen) : Season := { s with reports := s.reports ++ [r] }
def withE (s : Season) (r : Seen) : Int := if checkM s ≠ 0 then checkM s else if s.reports.length = 5 then 6 else if checkSeenM s r ≠ 0 then checkSeenM s r else if mayM (withS s r) then 0 else 9
def withV (s : Season) (r : Seen) : Season := if withE s r = 0 then withS s r else noSeason
/-- The reports whose numbers are not in a list. -/
def keepN (l : List Int) : Nat → List Seen → List Seen
  | _, [] => []
  | i, r :: rs => if (i : Int) ∈ l then keepN l (i + 1) rs else r :: keepN l (i + 1) rs
theorem keepN_snoc (l : List Int) (x : Seen) : ∀ (a : List Seen) (i : Nat), keepN l i (a ++ [x]) = keepN l i a ++ if ((i + a.length : Nat) : Int) ∈ l then [] else [x]
  | [], i => by simp [keepN]
  | r :: a, i => by
    rw [List.cons_append, keepN, keepN, keepN_snoc l x a (i + 1), List.length_cons, show i + 1 + a.length = i + (a.length + 1) from by omega]
    split <;> simp
theorem keepN_len (l : List Int) : ∀ (a : List Seen) (i : Nat), (keepN l i a).length ≤ a.length
  | [], i => by simp [keepN]
  | r :: a, i => by
    have := keepN_len l a (i + 1)
    rw [keepN]
    split
    · simp; omega
    · simp; omega
theorem keepN_mem {l : List Int} {r : Seen} : ∀ {a : List Seen} {i : Nat}, r ∈ keepN l i a → r ∈ a
  | [], i, h => by simp [keepN] at h
  | q :: a, i, h => by
    rw [keepN] at h
    split at h
    · exact List.mem_cons_of_mem _ (keepN_mem h)
    · rcases List.mem_cons.1 h with rfl | h
      · exact List.mem_cons_self ..
      · exact List.mem_cons_of_mem _ (keepN_mem h)
def withoutS (s : Season) (l : List Int) : Season := { s with reports := keepN l 0 s.reports }
theorem CheckS.without {s : Season} (c : CheckS s) (l : List Int) : CheckS (withoutS s l) :=
  ⟨c.w1, c.w6, c.dl, c.h, c.d, c.j3, c.j, Nat.le_trans (keepN_len l s.reports 0) c.r5, fun r hr => by
    have := checkSeen_iff.1 (c.r r (keepN_mem hr))
    exact checkSeen_iff.2 this⟩
theorem CheckS.b {s : Season} (c : CheckS s) : SeasonB s := (checkM_zero c.ok).b
def wrongL (s : Season) : List Int := if checkM s = 0 then (fewestP s.reports.length (fun l => mayM (withoutS s l)) (s.reports.length + 1)).getD [] else []
end Go.Wx
/- Walks: a report more; reports that must be wrong. Conditions: as each theorem states. -/
namespace Go.Proofs.Ytndfkbapoinmkaa
open Go Go.HL Go.Proofs Go.Wx
set_option maxRecDepth 100000
theorem cloneSeenO (l : List Seen) (A : Option Addr) (c : Nat) (h : AH) (R : Row h 3 seenC A l) (hl : l.length < 2 ^ 20) :
    FnM Try.prog (.func (.func 130) #[] ([] : List Value).toArray) [.slice A l.length c] h [] (fun v h' M' => ∃ a : Acc, M' = [a.p] ∧ v = .slice a.A a.n a.c ∧ AccR 56 3 (l.flatMap seenC) a) := by
  cases A with
  | none =>
    have h0 := R.none_nil (by omega)
    subst h0
    refine fnM_body rfl rfl Try.func130 rfl Try.ntmps130 rfl ?_
    refine xp_seq ?_
    refine xp_region rfl ?_
    refine op_pure (pv_assign (v := .slice _ _ _) rfl) ?_
    refine xp_seq ?_
    refine xp_seq ?_
    refine xp_region rfl ?_
    refine op_pure (pv_move (v := .slice _ _ _) rfl) ?_
    refine op_pure (pv_of (v := .bool _) rfl) ?_
    refine xp_cond rfl (fun ht => ?_) (fun ht => ?_)
    · skip
      refine xp_seq ?_
      refine xp_region rfl ?_
      refine op_pure (pv_assign (v := .slice _ _ _) rfl) ?_
      refine xp_ret ?_
      refine res_list (vs := [_]) Try.results130 ⟨resV_tmp rfl rfl, trivial⟩ fun V => ?_
      exact ⟨_, [none], rfl, V, (Ext.refl _), acc0, rfl, rfl, accR0⟩
    · cases ht
  | some a =>
    refine fnM_body rfl rfl Try.func130 rfl Try.ntmps130 rfl ?_
    refine xp_seq ?_
    refine xp_region rfl ?_
    refine op_pure (pv_assign (v := .slice _ _ _) rfl) ?_
    refine xp_seq ?_
    refine xp_seq ?_
    refine xp_region rfl ?_
    refine op_pure (pv_move (v := .slice _ _ _) rfl) ?_
    refine op_pure (pv_of (v := .bool _) rfl) ?_
    refine xp_cond rfl (fun ht => ?_) (fun ht => ?_)
    · cases ht
    · skip
      refine xp_skip ?_
      refine xp_seq ?_
      refine xp_region rfl ?_
      refine op_buildSlice (zc := [_, _, _]) (vs := []) (cs := []) rfl rfl rfl rfl rfl rfl rfl fun b5 hb5 => ?_
      refine wp_norm [_] rfl ?_
      refine op_pure (pv_move (v := .slice _ _ _) rfl) ?_
      refine op_appendR 0 accR_new rfl rfl rfl (fun V => R.2.ext (ext_wl V)) (flat_len R.1) (flat_plain seenP l) rfl rfl rfl rfl rfl rfl rfl (by omega) rfl (by rw [flat_len R.1, List.length_nil]; omega) fun a2 h1a E1a ha2 => ?_
      refine wp_norm [_] rfl ?_
      refine op_pure (pv_assign (v := .slice _ _ _) rfl) ?_
      refine xp_ret ?_
      refine res_list (vs := [_]) Try.results130 ⟨resV_tmp rfl rfl, trivial⟩ fun V => ?_
      exact ⟨_, [_], rfl, V, E1a, a2, rfl, rfl, ha2⟩
/-- A copy of a season, its reports still owned. -/
theorem clone_okM (s : Season) (A0 A1 A2 A3 : Option Addr) (c0 c1 c2 c3 : Nat) (h : AH) (R : SeasonR h A0 A1 A2 A3 s) (h0 : s.heats.length < 2 ^ 20) (h1 : s.damps.length < 2 ^ 20) (h2 : s.joints.length < 2 ^ 20) (h3 : s.reports.length < 2 ^ 20) :
    FnM Try.prog (.func (.func 92) #[] ([] : List Value).toArray) [seasonV A0 A1 A2 A3 c0 c1 c2 c3 s] h [] (fun v h' M' => ∃ (a : Acc) (B0 B1 B2 : Option Addr) (d0 d1 d2 : Nat), M' = [a.p] ∧ v = .agg #[.slice B0 s.heats.length d0, .slice B1 s.damps.length d1, .slice B2 s.joints.length d2, .slice a.A a.n a.c]
      ∧ Row h' 2 rgC B0 s.heats ∧ Row h' 2 rgC B1 s.damps ∧ Row h' 9 jointC B2 s.joints ∧ AccR 56 3 (s.reports.flatMap seenC) a) := by
  refine fnM_body rfl rfl Try.func92 rfl Try.ntmps92 rfl ?_
  refine xp_seq ?_
  refine xp_region rfl ?_
  refine op_box (v := .agg #[.slice _ _ _, .slice _ _ _, .slice _ _ _, .slice _ _ _]) (cs := [_, _, _, _]) rfl rfl fun b1 hb1 => ?_
  refine wp_norm [_] rfl ?_
  refine op_alloc (cs := [_, _, _, _]) rfl rfl fun b2 hb2 => ?_
  refine wp_norm [_, _] rfl ?_
  refine xp_seq ?_
  refine xp_dw [false, false, true] rfl rfl rfl ?_
  refine dw_pure (i := 0) rfl (by decide +kernel) (pv_fieldAddr rfl rfl rfl rfl 0 rfl) ?_
  refine dw_load (i := 1) rfl (by decide +kernel) ?_
  refine op_loadP 0 (v := .slice _ _ _) rfl rfl rfl rfl ?_
  refine dw_pure (i := 3) rfl (by decide +kernel) (pv_fieldAddr rfl rfl rfl rfl 1 rfl) ?_
  refine dw_load (i := 4) rfl (by decide +kernel) ?_
  refine op_loadP 0 (v := .slice _ _ _) rfl rfl rfl rfl ?_
  refine dw_pure (i := 6) rfl (by decide +kernel) (pv_fieldAddr rfl rfl rfl rfl 2 rfl) ?_
  refine dw_load (i := 7) rfl (by decide +kernel) ?_
  refine op_loadP 0 (v := .slice _ _ _) rfl rfl rfl rfl ?_
  refine dw_pure (i := 9) rfl (by decide +kernel) (pv_fieldAddr rfl rfl rfl rfl 3 rfl) ?_
  refine dw_load (i := 10) rfl (by decide +kernel) ?_
  refine op_loadP 0 (v := .slice _ _ _) rfl rfl rfl rfl ?_
  refine dw_eff (i := 2) rfl (by decide +kernel) ?_
  refine op_fn (caps := []) (vs := [.slice _ _ _]) rfl rfl rfl (cloneRg_ok s.heats A0 c0 h (R.heats.ext (Ext.refl _)) h0) ?_
  rintro _ h4 E4 ⟨B0, d0, rfl, R0⟩
  refine ⟨ext_wlm E4 _, ?_⟩
  refine dw_eff (i := 5) rfl (by decide +kernel) ?_
  refine op_fn (caps := []) (vs := [.slice _ _ _]) rfl rfl rfl (cloneRg_ok s.damps A1 c1 h4 (R.damps.ext E4) h1) ?_
  rintro _ h5 E5 ⟨B1, d1, rfl, R1⟩
  refine ⟨ext_wlm E5 _, ?_⟩
  refine dw_eff (i := 8) rfl (by decide +kernel) ?_
  refine op_fn (caps := []) (vs := [.slice _ _ _]) rfl rfl rfl (cloneJoint_ok s.joints A2 c2 h5 (R.joints.ext (Ext.trans E4 E5)) h2) ?_
  rintro _ h6 E6 ⟨B2, d2, rfl, R2⟩
  refine ⟨ext_wlm E6 _, ?_⟩
  refine dw_last (i := 11) rfl (by decide +kernel) (by decide +kernel) ?_
  refine op_fnMM [_, _] [] [] rfl rfl rfl (cloneSeenO s.reports A3 c3 h6 (R.reports.ext (Ext.trans (Ext.trans E4 E5) E6)) h3) ?_
  rintro _ h7 _ E7 ⟨a, rfl, rfl, ha⟩
  refine dw_norm [_, _, _] rfl ?_
  refine dw_pure (i := 12) rfl (by decide +kernel) (pv_build (zc := [_, _, _, _]) (vs := [(0, .slice _ _ _), (1, .slice _ _ _), (2, .slice _ _ _), (3, .slice _ _ _)]) (cs := [_, _, _, _]) rfl rfl rfl rfl rfl rfl) ?_
  refine dw_last (i := 13) rfl (by decide +kernel) (by decide +kernel) ?_
  refine op_storeP 1 (v := .agg #[.slice _ _ _, .slice _ _ _, .slice _ _ _, .slice _ _ _]) (vs := [_, _, _, _]) (c' := [_, _, _, _]) rfl rfl rfl rfl rfl rfl rfl rfl rfl ?_
  refine dw_norm [_, _, _] rfl ?_
  refine dw_end rfl ?_
  refine xp_ret ?_
  refine res_list (vs := [_]) Try.results92 ⟨resV_agg 1 rfl rfl rfl rfl rfl (vs := [.slice _ _ _, .slice _ _ _, .slice _ _ _, .slice _ _ _]) rfl, trivial⟩ fun V => ?_
  obtain ⟨h9, E9, e9, V9⟩ := wl_shed [_, _] [_] V
  exact ⟨h9, _, e9, V9, Ext.trans (Ext.trans (Ext.trans (Ext.trans E4 E5) E6) E7) E9, a, B0, B1, B2, d0, d1, d2, rfl, rfl, R0.ext (Ext.trans (Ext.trans (Ext.trans E5 E6) E7) E9), R1.ext (Ext.trans (Ext.trans E6 E7) E9), R2.ext (Ext.trans E7 E9), ha⟩
set_option maxHeartbeats 2000000 in
theorem With_ok (s : Season) (Sm : Small s) (r : Seen) (A0 A1 A2 A3 : Option Addr) (c0 c1 c2 c3 : Nat) (h : AH) (R : SeasonR h A0 A1 A2 A3 s) :
    FnT Try.prog 58 #[seasonV A0 A1 A2 A3 c0 c1 c2 c3 s, .agg (seenC r).toArray] h (fun v h' => ∃ u, v = .tuple #[u, .int .i64 (withE s r)] ∧ SeasonS h' (withV s r) u) := by
  have Sm0 := Sm.h0
  have Sm2 := Sm.h2
  refine call_body Try.func58 rfl Try.ntmps58 rfl ?_
  refine xp_seq ?_
  refine xp_region rfl ?_
  refine op_box (v := .agg #[.slice _ _ _, .slice _ _ _, .slice _ _ _, .slice _ _ _]) (cs := [_, _, _, _]) rfl rfl fun b2 hb2 => ?_
  refine wp_norm [_] rfl ?_
  refine op_box (v := .agg #[.int .i64 _, .int .i64 _, .bool _]) (cs := [_, _, _]) rfl rfl fun b3 hb3 => ?_
  refine wp_norm [_, _] rfl ?_
  refine op_alloc (cs := [_, _, _, _]) rfl rfl fun b4 hb4 => ?_
  refine wp_norm [_, _, _] rfl ?_
  refine op_pure (pv_assign (v := .int .i64 _) rfl) ?_
  refine xp_seq ?_
  refine xp_seq ?_
  refine xp_region rfl ?_
  refine op_loadPA 0 (vs := [.slice _ _ _, .slice _ _ _, .slice _ _ _, .slice _ _ _]) rfl rfl rfl rfl rfl ?_
  refine op_fn (caps := []) (vs := [.agg #[.slice _ _ _, .slice _ _ _, .slice _ _ _, .slice _ _ _]]) rfl rfl rfl (check_ok s A0 A1 A2 A3 c0 c1 c2 c3 h (R.ext (Ext.refl _)) Sm.h0 Sm.h1 Sm.h2 Sm.h3) ?_
  rintro _ h1 E1 rfl
  refine op_pure (pv_assign (v := .int .i64 _) rfl) ?_
  refine xp_seq ?_
  refine xp_region rfl ?_
  refine op_pure (pv_move (v := .int .i64 _) rfl) ?_
  refine op_pure (pv_of (v := .bool _) rfl) ?_
  refine xp_cond rfl (fun hc => ?_) (fun hc => ?_)
  · skip
    have hc0 : checkM s ≠ 0 := by simpa using hc
    have hE : withE s r = checkM s := by rw [withE, if_pos hc0]
    refine xp_seq ?_
    refine xp_region rfl ?_
    refine op_pure (pv_build (zc := [_, _, _, _]) (vs := []) (cs := [_, _, _, _]) rfl rfl rfl rfl rfl rfl) ?_
    refine op_pure (pv_move (v := .int .i64 _) rfl) ?_
    refine op_storeP 2 (v := .agg #[.slice _ _ _, .slice _ _ _, .slice _ _ _, .slice _ _ _]) (vs := [_, _, _, _]) (c' := [_, _, _, _]) rfl rfl rfl rfl rfl rfl rfl rfl rfl ?_
    refine wp_norm [_, _, _] rfl ?_
    refine op_pure (pv_assign (v := .int .i64 _) rfl) ?_
    refine xp_ret ?_
    refine res_list (vs := [_, _]) Try.results58 ⟨resV_agg 2 rfl rfl rfl rfl rfl (vs := [.slice _ _ _, .slice _ _ _, .slice _ _ _, .slice _ _ _]) rfl, resV_tmp rfl rfl, trivial⟩ fun V => ?_
    exact ⟨(Ext.trans E1 (ext_wl V)), _, by rw [hE]; rfl, none, none, none, none, 0, 0, 0, 0, by rw [withV, hE, if_neg hc0]; rfl, by rw [withV, hE, if_neg hc0]; exact seasonR_none⟩
  · skip
    have hc0 : checkM s = 0 := by simpa using hc
    have C := CheckS.of hc0
    have h6 := C.w6
    have hdl := C.dl
    have j3 := C.j3
    have r5 := C.r5
    refine xp_skip ?_
    refine xp_seq ?_
    refine xp_seq ?_
    refine xp_region rfl ?_
    refine op_pure (pv_fieldAddr rfl rfl rfl rfl 3 rfl) ?_
    refine op_loadP 0 (v := .slice _ _ _) rfl rfl rfl rfl ?_
    refine op_pure (pv_len rfl rfl) ?_
    refine op_pure (pv_of (v := .bool _) rfl) ?_
    refine xp_cond rfl (fun hf => ?_) (fun hf => ?_)
    · skip
      have hf5 : s.reports.length = 5 := by have := of_decide_eq_true hf; omega
      have hE : withE s r = 6 := by rw [withE, if_neg (by simp [hc0]), if_pos hf5]
      refine xp_seq ?_
      refine xp_region rfl ?_
      refine op_pure (pv_build (zc := [_, _, _, _]) (vs := []) (cs := [_, _, _, _]) rfl rfl rfl rfl rfl rfl) ?_
      refine op_storeP 2 (v := .agg #[.slice _ _ _, .slice _ _ _, .slice _ _ _, .slice _ _ _]) (vs := [_, _, _, _]) (c' := [_, _, _, _]) rfl rfl rfl rfl rfl rfl rfl rfl rfl ?_
      refine wp_norm [_, _, _] rfl ?_
      refine op_pure (pv_assign (v := .int .i64 _) rfl) ?_
      refine xp_ret ?_
      refine res_list (vs := [_, _]) Try.results58 ⟨resV_agg 2 rfl rfl rfl rfl rfl (vs := [.slice _ _ _, .slice _ _ _, .slice _ _ _, .slice _ _ _]) rfl, resV_tmp rfl rfl, trivial⟩ fun V => ?_
      exact ⟨(Ext.trans E1 (ext_wl V)), _, by rw [hE]; rfl, none, none, none, none, 0, 0, 0, 0, by rw [withV, hE]; rfl, by rw [withV, hE]; exact seasonR_none⟩
    · skip
      have hf5 : ¬ s.reports.length = 5 := by have := of_decide_eq_false hf; omega
      refine xp_skip ?_
      refine xp_seq ?_
      refine xp_seq ?_
      refine xp_region rfl ?_
      refine op_loadPA 0 (vs := [.slice _ _ _, .slice _ _ _, .slice _ _ _, .slice _ _ _]) rfl rfl rfl rfl rfl ?_
      refine op_loadPA 1 (vs := [.int .i64 _, .int .i64 _, .bool _]) rfl rfl rfl rfl rfl ?_
      refine op_fn (caps := []) (vs := [.agg #[.slice _ _ _, .slice _ _ _, .slice _ _ _, .slice _ _ _], .agg #[.int .i64 _, .int .i64 _, .bool _]]) rfl rfl rfl (checkSeen_ok s r A0 A1 A2 A3 c0 c1 c2 c3 Sm2 Sm0 h1) ?_
      rintro _ h2 E2 rfl
      refine op_pure (pv_assign (v := .int .i64 _) rfl) ?_
      refine xp_seq ?_
      refine xp_region rfl ?_
      refine op_pure (pv_move (v := .int .i64 _) rfl) ?_
      refine op_pure (pv_of (v := .bool _) rfl) ?_
      refine xp_cond rfl (fun hs => ?_) (fun hs => ?_)
      · skip
        have hs0 : checkSeenM s r ≠ 0 := by simpa using hs
        have hE : withE s r = checkSeenM s r := by rw [withE, if_neg (by simp [hc0]), if_neg hf5, if_pos hs0]
        refine xp_seq ?_
        refine xp_region rfl ?_
        refine op_pure (pv_build (zc := [_, _, _, _]) (vs := []) (cs := [_, _, _, _]) rfl rfl rfl rfl rfl rfl) ?_
        refine op_pure (pv_move (v := .int .i64 _) rfl) ?_
        refine op_storeP 2 (v := .agg #[.slice _ _ _, .slice _ _ _, .slice _ _ _, .slice _ _ _]) (vs := [_, _, _, _]) (c' := [_, _, _, _]) rfl rfl rfl rfl rfl rfl rfl rfl rfl ?_
        refine wp_norm [_, _, _] rfl ?_
        refine op_pure (pv_assign (v := .int .i64 _) rfl) ?_
        refine xp_ret ?_
        refine res_list (vs := [_, _]) Try.results58 ⟨resV_agg 2 rfl rfl rfl rfl rfl (vs := [.slice _ _ _, .slice _ _ _, .slice _ _ _, .slice _ _ _]) rfl, resV_tmp rfl rfl, trivial⟩ fun V => ?_
        exact ⟨(Ext.trans (Ext.trans E1 E2) (ext_wl V)), _, by rw [hE]; rfl, none, none, none, none, 0, 0, 0, 0, by rw [withV, hE, if_neg hs0]; rfl, by rw [withV, hE, if_neg hs0]; exact seasonR_none⟩
      · skip
        have hs0 : checkSeenM s r = 0 := by simpa using hs
        have CW : CheckS (withS s r) := ⟨C.w1, C.w6, C.dl, C.h, C.d, C.j3, C.j, by show (s.reports ++ [r]).length ≤ 5; rw [List.length_append, List.length_singleton]; omega, fun q hq => by
          rcases List.mem_append.1 hq with hq | hq
          · exact checkSeen_iff.2 (checkSeen_iff.1 (C.r q hq))
          · rw [List.mem_singleton.1 hq]; exact checkSeen_iff.2 (checkSeen_iff.1 hs0)⟩
        refine xp_skip ?_
        refine xp_seq ?_
        refine xp_region rfl ?_
        refine op_loadPA 0 (vs := [.slice _ _ _, .slice _ _ _, .slice _ _ _, .slice _ _ _]) rfl rfl rfl rfl rfl ?_
        refine op_fnMM [_, _, _] [] [] rfl rfl rfl (clone_okM s A0 A1 A2 A3 c0 c1 c2 c3 h2 (R.ext (Ext.trans E1 E2)) (by omega) (by omega) (by omega) (by omega)) ?_
        rintro _ h3 _ E3 ⟨a, B0, B1, B2, d0, d1, d2, rfl, rfl, R0, R1, R2, ha⟩
        refine wp_norm [_, _, _, _] rfl ?_
        refine op_storeP 0 (v := .agg #[.slice _ _ _, .slice _ _ _, .slice _ _ _, .slice _ _ _]) (vs := [_, _, _, _]) (c' := [_, _, _, _]) rfl rfl rfl rfl rfl rfl rfl rfl rfl ?_
        refine wp_norm [_, _, _, _] rfl ?_
        refine xp_seq ?_
        refine xp_region rfl ?_
        refine op_pure (pv_fieldAddr rfl rfl rfl rfl 3 rfl) ?_
        refine op_loadP 0 (v := .slice _ _ _) rfl rfl rfl rfl ?_
        refine op_loadPA 1 (vs := [.int .i64 _, .int .i64 _, .bool _]) rfl rfl rfl rfl rfl ?_
        refine op_buildSlice (zc := [_, _, _]) (vs := [(0, .agg #[.int .i64 _, .int .i64 _, .bool _])]) (cs := [_, _, _]) rfl rfl rfl rfl rfl rfl rfl fun b33 hb33 => ?_
        refine wp_norm [_, _, _, _, _] rfl ?_
        refine op_appendR 3 ha rfl rfl rfl (fun V => rdP V (i := 4) rfl) rfl rfl rfl rfl rfl rfl rfl rfl rfl (by omega) rfl (by rw [flat_len (m := 3) (fun _ _ => rfl)]; simp; omega) fun a2 h1a E1a ha2 => ?_
        refine wp_norm [_, _, _, _, _] rfl ?_
        obtain ⟨p7, A7, n7, c7⟩ := a2
        obtain rfl : n7 = (withS s r).reports.length := by have := AccR.len ha2; rw [List.length_append, flat_len (m := 3) (fun _ _ => rfl)] at this; simp [withS] at this ⊢; omega
        dsimp only
        refine op_pure (pv_fieldAddr rfl rfl rfl rfl 3 rfl) ?_
        refine op_storeP 0 (v := .slice _ _ _) (vs := [_]) (c' := [_, _, _, _]) rfl rfl rfl rfl rfl rfl rfl rfl rfl ?_
        refine wp_norm [_, _, _, _, _] rfl ?_
        refine goes_pubO 3 rfl ?_
        intro g7 G7 P7
        refine goes_norm [_, _, _, _, _] rfl ?_
        have RW : SeasonR g7 B0 B1 B2 A7 (withS s r) := ⟨R0.ext (Ext.trans E1a G7), R1.ext (Ext.trans E1a G7), R2.ext (Ext.trans E1a G7), ⟨fun _ _ => rfl, by have := AccR.rd ha2 P7; rw [show (withS s r).reports = s.reports ++ [r] from rfl, List.flatMap_append]; exact this⟩⟩
        refine xp_seq ?_
        refine xp_seq ?_
        refine xp_region rfl ?_
        refine op_loadPA 0 (vs := [.slice _ _ _, .slice _ _ _, .slice _ _ _, .slice _ _ _]) rfl rfl rfl rfl rfl ?_
        refine op_fn (caps := []) (vs := [.agg #[.slice _ _ _, .slice _ _ _, .slice _ _ _, .slice _ _ _]]) rfl rfl rfl (bothOf_ok (withS s r) CW.b B0 B1 B2 A7 d0 d1 d2 c7 g7 RW) ?_
        rintro _ h8 E8 ⟨_, rfl, A, c, mf, fm, fl, A', c', mf', fm', fl', rfl, X, X'⟩
        refine op_pure (pv_move (v := .tuple #[.agg #[.slice _ _ _, .map _, .map _, .map _, .map _, .slice _ _ _, .map _, .map _, .map _, .map _], .bool _]) rfl) ?_
        refine op_pure (pv_of (v := .agg #[.slice _ _ _, .map _, .map _, .map _, .map _, .slice _ _ _, .map _, .map _, .map _, .map _]) rfl) ?_
        refine op_pure (pv_of (v := .bool _) rfl) ?_
        refine op_alloc (cs := [_, _, _, _, _, _, _, _, _, _]) rfl rfl fun b8 hb8 => ?_
        refine wp_norm [_, _, _, _, _, _] rfl ?_
        refine op_storeP 5 (v := .agg #[.slice _ _ _, .map _, .map _, .map _, .map _, .slice _ _ _, .map _, .map _, .map _, .map _]) (vs := [_, _, _, _, _, _, _, _, _, _]) (c' := [_, _, _, _, _, _, _, _, _, _]) rfl rfl rfl rfl rfl rfl rfl rfl rfl ?_
        refine wp_norm [_, _, _, _, _, _] rfl ?_
        refine op_pure (pv_assign (v := .bool _) rfl) ?_
        refine xp_seq ?_
        refine xp_region rfl ?_
        refine op_pure (pv_move (v := .bool _) rfl) ?_
        refine op_pure (pv_of (v := .bool _) rfl) ?_
        refine xp_cond rfl (fun hm => ?_) (fun hm => ?_)
        · skip
          have hm0 : mayM (withS s r) = false := by simpa using hm
          have hE : withE s r = 9 := by rw [withE, if_neg (by simp [hc0]), if_neg hf5, if_neg (by simp [hs0]), hm0]; rfl
          refine xp_seq ?_
          refine xp_region rfl ?_
          refine op_pure (pv_build (zc := [_, _, _, _]) (vs := []) (cs := [_, _, _, _]) rfl rfl rfl rfl rfl rfl) ?_
          refine op_storeP 2 (v := .agg #[.slice _ _ _, .slice _ _ _, .slice _ _ _, .slice _ _ _]) (vs := [_, _, _, _]) (c' := [_, _, _, _]) rfl rfl rfl rfl rfl rfl rfl rfl rfl ?_
          refine wp_norm [_, _, _, _, _, _] rfl ?_
          refine op_pure (pv_assign (v := .int .i64 _) rfl) ?_
          refine xp_ret ?_
          refine res_list (vs := [_, _]) Try.results58 ⟨resV_agg 2 rfl rfl rfl rfl rfl (vs := [.slice _ _ _, .slice _ _ _, .slice _ _ _, .slice _ _ _]) rfl, resV_tmp rfl rfl, trivial⟩ fun V => ?_
          exact ⟨(Ext.trans (Ext.trans (Ext.trans (Ext.trans (Ext.trans (Ext.trans E1 E2) E3) E1a) G7) E8) (ext_wl V)), _, by rw [hE]; rfl, none, none, none, none, 0, 0, 0, 0, by rw [withV, hE]; rfl, by rw [withV, hE]; exact seasonR_none⟩
        · skip
          have hm0 : mayM (withS s r) = true := by simpa using hm
          have hE : withE s r = 0 := by rw [withE, if_neg (by simp [hc0]), if_neg hf5, if_neg (by simp [hs0]), hm0]; rfl
          refine xp_skip ?_
          refine xp_seq ?_
          refine xp_region rfl ?_
          refine op_loadPA 0 (vs := [.slice _ _ _, .slice _ _ _, .slice _ _ _, .slice _ _ _]) rfl rfl rfl rfl rfl ?_
          refine op_storeP 2 (v := .agg #[.slice _ _ _, .slice _ _ _, .slice _ _ _, .slice _ _ _]) (vs := [_, _, _, _]) (c' := [_, _, _, _]) rfl rfl rfl rfl rfl rfl rfl rfl rfl ?_
          refine wp_norm [_, _, _, _, _, _] rfl ?_
          refine op_pure (pv_assign (v := .int .i64 _) rfl) ?_
          refine xp_ret ?_
          refine res_list (vs := [_, _]) Try.results58 ⟨resV_agg 2 rfl rfl rfl rfl rfl (vs := [.slice _ _ _, .slice _ _ _, .slice _ _ _, .slice _ _ _]) rfl, resV_tmp rfl rfl, trivial⟩ fun V => ?_
          exact ⟨(Ext.trans (Ext.trans (Ext.trans (Ext.trans (Ext.trans (Ext.trans E1 E2) E3) E1a) G7) E8) (ext_wl V)), _, by rw [hE]; rfl, B0, B1, B2, A7, d0, d1, d2, c7, by rw [withV, if_pos hE]; rfl, by rw [withV, if_pos hE]; exact RW.ext (Ext.trans E8 (ext_wl V))⟩
end Go.Proofs.Ytndfkbapoinmkaa
/- Walks: the fewest reports that must be wrong. Conditions: as each theorem states. -/
namespace Go.Proofs.Ytndfkbapoinmkaa
open Go Go.HL Go.Proofs Go.Wx
set_option maxRecDepth 100000
theorem index_ok (l : List Int) (z : Int) (A : Option Addr) (c : Nat) (h : AH) (R : Row h 1 intC A l) (hl : l.length < 2 ^ 40) :
    FnT Try.prog 141 #[.slice A l.length c, .int .i64 z] h (fun v _ => ∃ i : Int, v = .int .i64 i ∧ decide (i ≥ 0) = decide (z ∈ l)) := by
  refine call_body Try.func141 rfl Try.ntmps141 rfl ?_
  refine xp_seq ?_
  refine xp_region rfl ?_
  refine op_pure (pv_assign (v := .int .i64 _) rfl) ?_
  refine xp_seq ?_
  refine xp_seq ?_
  refine xp_region rfl ?_
  refine op_pure (pv_move (v := .slice _ _ _) rfl) ?_
  refine op_pure (pv_len rfl rfl) ?_
  refine op_pure (pv_move (v := .int .i64 _) rfl) ?_
  refine xp_block ?_
  refine xp_loopB [4, 5, 8, 9, 10, 11, 12, 13, 14, 15, 16, 17, 18] 0 (α := Nat) (fun k => [(8, .int .i64 k)]) (fun k => _) (fun k h_k => k ≤ l.length ∧ z ∉ l.take k) (fun k => l.length - k) (0) ⟨rfl, trivial⟩ (rfl) (⟨Nat.zero_le _, by simp⟩) ?_
  rintro k T1 h_k E_k J_k
  refine goes_norm [] rfl ?_
  obtain ⟨K1, K2⟩ := J_k
  refine xp_seq ?_
  refine xp_region rfl ?_
  refine op_pure (pv_of (v := .bool _) rfl) ?_
  refine xp_seq ?_
  refine xp_cond rfl (fun hk => ?_) (fun hk => ?_)
  · skip
    have hkl : k < l.length := ltI hk
    obtain ⟨g, off, hA, hc⟩ := (R.ext E_k).at (by omega) hkl
    refine xp_skip ?_
    refine xp_seq ?_
    refine xp_block ?_
    refine xp_seq ?_
    refine xp_region rfl ?_
    refine op_pure (pv_move (v := .int .i64 _) rfl) ?_
    refine op_pure (pv_assign (v := .int .i64 _) rfl) ?_
    refine xp_seq ?_
    refine xp_region rfl ?_
    refine op_pure (pv_move (v := .int .i64 _) rfl) ?_
    refine op_pure (pv_move (v := .slice _ _ _) rfl) ?_
    refine op_pure (pv_move (v := .int .i64 _) rfl) ?_
    refine op_pure (pv_indexE rfl hA rfl rfl rfl (by omega) (by omega)) ?_
    refine op_load (v := .int .i64 _) rfl rfl ((hc) 0 _ rfl) ?_
    refine op_pure (pv_of (v := .bool _) rfl) ?_
    refine xp_cond rfl (fun he => ?_) (fun he => ?_)
    · skip
      have he' : z = l[k] := by simpa using he
      have hz : z ∈ l := by rw [he']; exact List.getElem_mem hkl
      refine xp_seq ?_
      refine xp_region rfl ?_
      refine op_pure (pv_move (v := .int .i64 _) rfl) ?_
      refine op_pure (pv_assign (v := .int .i64 _) rfl) ?_
      refine xp_ret ?_
      refine res_list (vs := [_]) Try.results141 ⟨resV_tmp rfl rfl, trivial⟩ fun V => ?_
      exact ⟨(Ext.trans E_k (ext_wl V)), k, rfl, by rw [decide_eq_true hz]; exact decide_eq_true (by omega)⟩
    · skip
      have he' : ¬ z = l[k] := by simpa using he
      refine xp_skip ?_
      refine xp_region rfl ?_
      refine op_pure (pv_arith rfl (by omega)) ?_
      refine op_pure (pv_move (v := .int .i64 _) rfl) ?_
      refine ⟨k + 1, ⟨rfl, trivial⟩, rfl, rfl, E_k, fun h3 E3 => ⟨hkl, by rw [take_snoc hkl, List.mem_append, List.mem_singleton]; exact fun h => h.elim K2 he'⟩, by first | omega | (dsimp only; omega), ?_⟩
      repeat (first | exact off_base _ _ _ | refine off_upd (by decide) ?_ | refine off_updL rfl ?_ | refine off_mix rfl ?_)
  · skip
    have hke : k = l.length := by have := geI hk; omega
    subst hke
    rw [List.take_length] at K2
    refine xp_exit ?_
    refine xp_seq ?_
    refine xp_region rfl ?_
    refine op_pure (pv_assign (v := .int .i64 _) rfl) ?_
    refine xp_ret ?_
    refine res_list (vs := [_]) Try.results141 ⟨resV_tmp rfl rfl, trivial⟩ fun V => ?_
    exact ⟨(Ext.trans E_k (ext_wl V)), -1, rfl, by rw [decide_eq_false K2]; rfl⟩
theorem contains_ok (l : List Int) (z : Int) (A : Option Addr) (c : Nat) (h : AH) (R : Row h 1 intC A l) (hl : l.length < 2 ^ 40) :
    FnT Try.prog 123 #[.slice A l.length c, .int .i64 z] h (fun v _ => v = .bool (decide (z ∈ l))) := by
  refine call_body Try.func123 rfl Try.ntmps123 rfl ?_
  refine xp_seq ?_
  refine xp_region rfl ?_
  refine op_pure (pv_assign (v := .bool _) rfl) ?_
  refine xp_seq ?_
  refine xp_region rfl ?_
  refine op_pure (pv_move (v := .slice _ _ _) rfl) ?_
  refine op_pure (pv_move (v := .int .i64 _) rfl) ?_
  refine op_fn (caps := []) (vs := [.slice _ _ _, .int .i64 _]) rfl rfl rfl (index_ok l z A c h R hl) ?_
  rintro _ h1 E1 ⟨i, rfl, hi⟩
  refine op_pure (pv_of (v := .bool _) rfl) ?_
  refine op_pure (pv_assign (v := .bool _) rfl) ?_
  refine xp_ret ?_
  refine res_list (vs := [_]) Try.results123 ⟨resV_tmp rfl rfl, trivial⟩ fun V => ?_
  exact ⟨(Ext.trans E1 (ext_wl V)), congrArg Value.bool hi⟩
set_option maxHeartbeats 1000000 in
theorem wrong1_will (s : Season) (C : CheckS s) (A0 A1 A2 A3 : Option Addr) (c0 c1 c2 c3 : Nat) (b1 : Nat) (h : AH) (R : SeasonR h A0 A1 A2 A3 s)
    (e1 : h b1 = some (.cells #[.slice A0 s.heats.length c0, .slice A1 s.damps.length c1, .slice A2 s.joints.length c2, .slice A3 s.reports.length c3] 26 (0, 0))) :
    Will (.func (.func 122) #[] #[.pointer (some ⟨b1, 0, none⟩)]) h (fun l => mayM (withoutS s l)) := by
  intro h' E _ l B c RB hl
  have r5 := C.r5
  refine callV_fn (caps := [.pointer (some ⟨b1, 0, none⟩)]) rfl ?_
  refine call_body Try.func122 rfl Try.ntmps122 rfl ?_
  refine goes_more ?_
  refine goes_norm [_] rfl ?_
  refine xp_seq ?_
  refine xp_region rfl ?_
  refine op_pure (pv_assign (v := .bool _) rfl) ?_
  refine xp_seq ?_
  refine xp_region rfl ?_
  refine op_loadA (cs := [.slice _ _ _, .slice _ _ _, .slice _ _ _, .slice _ _ _]) rfl rfl rfl rfl (cells_blk (E _ _ e1)) ?_
  refine op_alloc (cs := [_, _, _, _]) rfl rfl fun b4 hb4 => ?_
  refine wp_norm [_, _] rfl ?_
  refine op_storeP 1 (v := .agg #[.slice _ _ _, .slice _ _ _, .slice _ _ _, .slice _ _ _]) (vs := [_, _, _, _]) (c' := [_, _, _, _]) rfl rfl rfl rfl rfl rfl rfl rfl rfl ?_
  refine wp_norm [_, _] rfl ?_
  refine xp_seq ?_
  refine xp_region rfl ?_
  refine op_pure (pv_fieldAddr rfl rfl rfl rfl 3 rfl) ?_
  refine op_storeP 1 (v := .slice _ _ _) (vs := [_]) (c' := [_, _, _, _]) rfl rfl rfl rfl rfl rfl rfl rfl rfl ?_
  refine wp_norm [_, _] rfl ?_
  refine xp_seq ?_
  refine xp_seq ?_
  refine xp_region rfl ?_
  refine op_pure (pv_fieldAddr rfl rfl rfl rfl _ rfl) ?_
  refine op_load (v := .slice _ _ _) rfl rfl (by simp only [cellA, E _ _ e1]; rfl) ?_
  refine op_pure (pv_len rfl rfl) ?_
  refine op_pure (pv_move (v := .int .i64 _) rfl) ?_
  refine xp_block ?_
  refine xp_loopL [5, 6, 14, 15, 16, 17, 18, 19, 20, 21, 22, 23, 24, 25, 26, 27, 28, 29] 2 (α := Nat × Acc) (fun ⟨k, a⟩ => [(14, .int .i64 k)]) (fun ⟨k, a⟩ L => (L.set 1 (some (b4, .cells #[.slice A0 s.heats.length c0, .slice A1 s.damps.length c1, .slice A2 s.joints.length c2, .slice a.A a.n a.c] 26 (0, 0)))).set 0 (a.p)) (fun ⟨k, a⟩ h_k => k ≤ s.reports.length ∧ AccR 56 3 ((keepN l 0 (s.reports.take k)).flatMap seenC) a) (fun ⟨k, a⟩ => s.reports.length - k) ((0, acc0)) ⟨rfl, trivial⟩ (rfl) (⟨Nat.zero_le _, accR0⟩) ?_
  rintro ⟨k, a⟩ T1 h_k E_k J_k
  refine goes_norm [_, _] rfl ?_
  obtain ⟨K1, K2⟩ := J_k
  refine xp_seq ?_
  refine xp_region rfl ?_
  refine op_pure (pv_of (v := .bool _) rfl) ?_
  refine xp_seq ?_
  refine xp_cond rfl (fun hk => ?_) (fun hk => ?_)
  · skip
    have hkl : k < s.reports.length := ltI hk
    obtain ⟨g, off, hA, hcs⟩ := (R.reports.ext (Ext.trans E E_k)).at (by omega) hkl
    have hsn : keepN l 0 (s.reports.take (k + 1)) = keepN l 0 (s.reports.take k) ++ if ((k : Nat) : Int) ∈ l then [] else [s.reports[k]] := by
      rw [take_snoc hkl, keepN_snoc, List.length_take, Nat.min_eq_left (by omega), Nat.zero_add]
    refine xp_skip ?_
    refine xp_seq ?_
    refine xp_block ?_
    refine xp_seq ?_
    refine xp_region rfl ?_
    refine op_pure (pv_move (v := .int .i64 _) rfl) ?_
    refine op_pure (pv_indexE rfl hA rfl rfl rfl (by omega) (by omega)) ?_
    refine op_loadA rfl rfl rfl rfl (hcs) ?_
    refine op_alloc (cs := [_, _, _]) rfl rfl fun b6 hb6 => ?_
    refine wp_norm [_, _, _] rfl ?_
    refine op_pure (pv_assign (v := .int .i64 _) rfl) ?_
    refine op_storeP 2 (v := .agg #[.int .i64 _, .int .i64 _, .bool _]) (vs := [_, _, _]) (c' := [_, _, _]) rfl rfl rfl rfl rfl rfl rfl rfl rfl ?_
    refine wp_norm [_, _, _] rfl ?_
    refine xp_seq ?_
    refine xp_region rfl ?_
    refine op_pure (pv_move (v := .slice _ _ _) rfl) ?_
    refine op_pure (pv_move (v := .int .i64 _) rfl) ?_
    refine op_fn (caps := []) (vs := [.slice _ _ _, .int .i64 _]) rfl rfl rfl (contains_ok l k B c h_k (RB.ext E_k) (by omega)) ?_
    rintro _ h3 E3 rfl
    refine op_pure (pv_of (v := .bool _) rfl) ?_
    refine xp_cond rfl (fun hin => ?_) (fun hin => ?_)
    · skip
      have hin' : ¬ ((k : Nat) : Int) ∈ l := by simpa using hin
      refine xp_region rfl ?_
      refine op_pure (pv_fieldAddr rfl rfl rfl rfl 3 rfl) ?_
      refine op_loadP 1 (v := .slice _ _ _) rfl rfl rfl rfl ?_
      refine op_loadPA 2 (vs := [.int .i64 _, .int .i64 _, .bool _]) rfl rfl rfl rfl rfl ?_
      refine op_buildSlice (zc := [_, _, _]) (vs := [(0, .agg #[.int .i64 _, .int .i64 _, .bool _])]) (cs := [_, _, _]) rfl rfl rfl rfl rfl rfl rfl fun b26 hb26 => ?_
      refine wp_norm [_, _, _, _] rfl ?_
      refine op_appendR 0 K2 rfl rfl rfl (fun V => rdP V (i := 3) rfl) rfl rfl rfl rfl rfl rfl rfl rfl rfl (by omega) rfl (by rw [flat_len (m := 3) (fun _ _ => rfl)]; have := keepN_len l (s.reports.take k) 0; simp at this ⊢; omega) fun a2 h2a E2a ha2 => ?_
      refine wp_norm [_, _, _, _] rfl ?_
      refine op_pure (pv_fieldAddr rfl rfl rfl rfl 3 rfl) ?_
      refine op_storeP 1 (v := .slice _ _ _) (vs := [_]) (c' := [_, _, _, _]) rfl rfl rfl rfl rfl rfl rfl rfl rfl ?_
      refine wp_norm [_, _, _, _] rfl ?_
      refine xp_region rfl ?_
      refine op_pure (pv_arith rfl (by omega)) ?_
      refine op_pure (pv_move (v := .int .i64 _) rfl) ?_
      refine ⟨(k + 1, a2), ⟨rfl, trivial⟩, rfl, rfl, (Ext.trans (Ext.trans E_k E3) E2a), fun h3 E3 => ⟨hkl, by rw [hsn, if_neg hin', List.flatMap_append]; exact ha2⟩, by first | omega | (dsimp only; omega), ?_⟩
      repeat (first | exact off_base _ _ _ | refine off_upd (by decide) ?_ | refine off_updL rfl ?_ | refine off_mix rfl ?_)
    · skip
      have hin' : ((k : Nat) : Int) ∈ l := by simpa using hin
      refine xp_skip ?_
      refine xp_region rfl ?_
      refine op_pure (pv_arith rfl (by omega)) ?_
      refine op_pure (pv_move (v := .int .i64 _) rfl) ?_
      refine ⟨(k + 1, a), ⟨rfl, trivial⟩, rfl, rfl, (Ext.trans E_k E3), fun h3 E3 => ⟨hkl, by rw [hsn, if_pos hin', List.append_nil]; exact K2⟩, by first | omega | (dsimp only; omega), ?_⟩
      repeat (first | exact off_base _ _ _ | refine off_upd (by decide) ?_ | refine off_updL rfl ?_ | refine off_mix rfl ?_)
  · skip
    have hke : k = s.reports.length := by have := geI hk; omega
    subst hke
    rw [List.take_length] at K2
    obtain ⟨p7, A7, n7, c7⟩ := a
    obtain rfl : n7 = (withoutS s l).reports.length := by have := AccR.len K2; rw [flat_len (m := 3) (fun _ _ => rfl)] at this; simp [withoutS] at this ⊢; omega
    dsimp only
    refine goes_pubO 0 rfl ?_
    intro g7 G7 P7
    refine goes_norm [_, _] rfl ?_
    have CW := C.without l
    have RW : SeasonR g7 A0 A1 A2 A7 (withoutS s l) := ⟨R.heats.ext (Ext.trans E (Ext.trans E_k G7)), R.damps.ext (Ext.trans E (Ext.trans E_k G7)), R.joints.ext (Ext.trans E (Ext.trans E_k G7)), ⟨fun _ _ => rfl, AccR.rd K2 P7⟩⟩
    refine xp_exit ?_
    refine xp_seq ?_
    refine xp_region rfl ?_
    refine op_loadPA 1 (vs := [.slice _ _ _, .slice _ _ _, .slice _ _ _, .slice _ _ _]) rfl rfl rfl rfl rfl ?_
    refine op_fn (caps := []) (vs := [.agg #[.slice _ _ _, .slice _ _ _, .slice _ _ _, .slice _ _ _]]) rfl rfl rfl (bothOf_ok (withoutS s l) CW.b A0 A1 A2 A7 c0 c1 c2 c7 g7 RW) ?_
    rintro _ h8 E8 ⟨_, rfl, A, c, mf, fm, fl, A', c', mf', fm', fl', rfl, X, X'⟩
    refine op_pure (pv_move (v := .tuple #[.agg #[.slice _ _ _, .map _, .map _, .map _, .map _, .slice _ _ _, .map _, .map _, .map _, .map _], .bool _]) rfl) ?_
    refine op_pure (pv_of (v := .agg #[.slice _ _ _, .map _, .map _, .map _, .map _, .slice _ _ _, .map _, .map _, .map _, .map _]) rfl) ?_
    refine op_pure (pv_of (v := .bool _) rfl) ?_
    refine op_alloc (cs := [_, _, _, _, _, _, _, _, _, _]) rfl rfl fun b7 hb7 => ?_
    refine wp_norm [_, _, _] rfl ?_
    refine op_storeP 2 (v := .agg #[.slice _ _ _, .map _, .map _, .map _, .map _, .slice _ _ _, .map _, .map _, .map _, .map _]) (vs := [_, _, _, _, _, _, _, _, _, _]) (c' := [_, _, _, _, _, _, _, _, _, _]) rfl rfl rfl rfl rfl rfl rfl rfl rfl ?_
    refine wp_norm [_, _, _] rfl ?_
    refine op_pure (pv_assign (v := .bool _) rfl) ?_
    refine xp_seq ?_
    refine xp_region rfl ?_
    refine op_pure (pv_move (v := .bool _) rfl) ?_
    refine op_pure (pv_assign (v := .bool _) rfl) ?_
    refine xp_ret ?_
    refine res_list (vs := [_]) Try.results122 ⟨resV_tmp rfl rfl, trivial⟩ fun V => ?_
    exact ⟨(Ext.trans (Ext.trans (Ext.trans E_k G7) E8) (ext_wl V)), rfl⟩
set_option maxHeartbeats 1000000 in
theorem Wrong_ok (s : Season) (Sm : Small s) (A0 A1 A2 A3 : Option Addr) (c0 c1 c2 c3 : Nat) (h : AH) (R : SeasonR h A0 A1 A2 A3 s) :
    FnT Try.prog 65 #[seasonV A0 A1 A2 A3 c0 c1 c2 c3 s] h (fun v h' => ∃ u, v = .tuple #[u, .int .i64 (checkM s)] ∧ SlR h' 1 intC (wrongL s) u) := by
  refine call_body Try.func65 rfl Try.ntmps65 rfl ?_
  refine xp_seq ?_
  refine xp_region rfl ?_
  refine op_box (v := .agg #[.slice _ _ _, .slice _ _ _, .slice _ _ _, .slice _ _ _]) (cs := [_, _, _, _]) rfl rfl fun b1 hb1 => ?_
  refine wp_norm [_] rfl ?_
  refine op_pure (pv_assign (v := .slice _ _ _) rfl) ?_
  refine op_pure (pv_assign (v := .int .i64 _) rfl) ?_
  refine goes_pub 0 rfl ?_
  intro h1 E1 p1
  refine xp_seq ?_
  refine xp_seq ?_
  refine xp_region rfl ?_
  refine op_loadA (cs := [.slice _ _ _, .slice _ _ _, .slice _ _ _, .slice _ _ _]) rfl rfl rfl rfl (cells_blk p1) ?_
  refine op_fn (caps := []) (vs := [.agg #[.slice _ _ _, .slice _ _ _, .slice _ _ _, .slice _ _ _]]) rfl rfl rfl (check_ok s A0 A1 A2 A3 c0 c1 c2 c3 h1 (R.ext E1) Sm.h0 Sm.h1 Sm.h2 Sm.h3) ?_
  rintro _ h2 E2 rfl
  refine op_pure (pv_assign (v := .int .i64 _) rfl) ?_
  refine xp_seq ?_
  refine xp_region rfl ?_
  refine op_pure (pv_move (v := .int .i64 _) rfl) ?_
  refine op_pure (pv_of (v := .bool _) rfl) ?_
  refine xp_cond rfl (fun hc => ?_) (fun hc => ?_)
  · skip
    have hc0 : checkM s ≠ 0 := by simpa using hc
    refine xp_seq ?_
    refine xp_region rfl ?_
    refine op_pure (pv_move (v := .int .i64 _) rfl) ?_
    refine op_pure (pv_assign (v := .slice _ _ _) rfl) ?_
    refine op_pure (pv_assign (v := .int .i64 _) rfl) ?_
    refine xp_ret ?_
    refine res_list (vs := [_, _]) Try.results65 ⟨resV_tmp rfl rfl, resV_tmp rfl rfl, trivial⟩ fun V => ?_
    refine ⟨(Ext.trans (Ext.trans E1 E2) (ext_wl V)), _, rfl, none, 0, ?_, ?_⟩
    · rw [wrongL, if_neg hc0]; rfl
    · rw [wrongL, if_neg hc0]; exact ⟨fun _ h => (by cases h), Rd.nil _ _⟩
  · skip
    have hc0 : checkM s = 0 := by simpa using hc
    have C := CheckS.of hc0
    have r5 := C.r5
    refine xp_skip ?_
    refine xp_seq ?_
    refine xp_region rfl ?_
    refine op_pure (pv_fieldAddr rfl rfl rfl rfl _ rfl) ?_
    refine op_load (v := .slice _ _ _) rfl rfl (by simp only [cellA, E2 _ _ p1]; rfl) ?_
    refine op_pure (pv_len rfl rfl) ?_
    refine op_pure (pv_makeFunc (vs := []) (ws := [_]) rfl rfl) ?_
    refine op_fn (caps := []) (vs := [.int .i64 _, _]) rfl rfl rfl (fewest_ok s.reports.length (by omega) _ _ _ _ h2 (wrong1_will s C A0 A1 A2 A3 c0 c1 c2 c3 b1 _ (R.ext (Ext.trans E1 E2)) (E2 _ _ p1))) ?_
    rintro _ h7 E7 ⟨u, rfl, B, cB, rfl, RB⟩
    refine op_pure (pv_move (v := .tuple #[.slice _ _ _, .bool _]) rfl) ?_
    refine op_pure (pv_of (v := .slice _ _ _) rfl) ?_
    refine op_pure (pv_of (v := .bool _) rfl) ?_
    refine op_pure (pv_assign (v := .slice _ _ _) rfl) ?_
    refine op_pure (pv_assign (v := .bool _) rfl) ?_
    refine xp_seq ?_
    refine xp_region rfl ?_
    refine op_pure (pv_move (v := .slice _ _ _) rfl) ?_
    refine op_pure (pv_assign (v := .slice _ _ _) rfl) ?_
    refine op_pure (pv_assign (v := .int .i64 _) rfl) ?_
    refine xp_ret ?_
    refine res_list (vs := [_, _]) Try.results65 ⟨resV_tmp rfl rfl, resV_tmp rfl rfl, trivial⟩ fun V => ?_
    refine ⟨(Ext.trans (Ext.trans (Ext.trans E1 E2) E7) (ext_wl V)), _, by rw [hc0]; rfl, B, cB, ?_, ?_⟩
    · rw [wrongL, if_pos hc0]; rfl
    · rw [wrongL, if_pos hc0]; exact RB.ext (ext_wl V)
end Go.Proofs.Ytndfkbapoinmkaa
/- Plain: the least and the greatest weather; how many joints are sound. Conditions: as each theorem states. -/
namespace Go.Wx
open Go Go.HL
/-- The least weather of a week among the first k, and the greatest. -/
def loK (l : List Sky) (w k : Nat) : Int := (l.take k).foldl (fun m x => min m (x.at w)) ((l.headD sky0).at w)
def hiK (l : List Sky) (w k : Nat) : Int := (l.take k).foldl (fun m x => max m (x.at w)) ((l.headD sky0).at w)
theorem loK_succ {l : List Sky} {w k : Nat} (h : k < l.length) : loK l w (k + 1) = min (loK l w k) (l[k].at w) := by
  unfold loK; rw [take_snoc h, List.foldl_append]; rfl
theorem hiK_succ {l : List Sky} {w k : Nat} (h : k < l.length) : hiK l w (k + 1) = max (hiK l w k) (l[k].at w) := by
  unfold hiK; rw [take_snoc h, List.foldl_append]; rfl
def weekR (l : List Sky) (w : Nat) : Rg := ⟨loK l w l.length, hiK l w l.length⟩
def kindE (k : Int) : Int := if inM k 1 2 then 0 else 8
def weatherE (s : Season) (k : Int) : Int := knownM s [kindE k]
def weatherL (s : Season) (k : Int) : List Rg := if weatherE s k = 0 then (List.range s.heats.length).map (weekR (skM s k)) else []
theorem kindE_zero {k : Int} (h : kindE k = 0) : k = 1 ∨ k = 2 := by
  unfold kindE at h
  split at h
  · rename_i hk; unfold inM at hk; simp at hk; omega
  · cases h
theorem may_pos {s : Season} (h : mayM s = true) {k : Int} (hk : k = 1 ∨ k = 2) : 0 < (skM s k).length := by
  unfold mayM at h
  rw [Bool.and_eq_true, decide_eq_true_eq, decide_eq_true_eq] at h
  rcases hk with rfl | rfl
  · exact h.1
  · exact h.2
/-- How many joints have surely failed, and how many may be sound, as the first n say. -/
def mustN (f : Fate) (w : Nat) : Nat → Nat
  | 0 => 0
  | i + 1 => mustN f w i + if uptoM (f.at i) w = 0 then 1 else 0
def canN (f : Fate) (w : Nat) : Nat → Nat
  | 0 => 0
  | i + 1 => canN f w i + if f.at i ≠ uptoM (f.at i) w then 1 else 0
def soundLo (s : Season) (w : Nat) (l : List Fate) : Nat := l.foldl (fun m f => min m (mustN f w s.joints.length)) s.joints.length
def soundHi (s : Season) (w : Nat) (l : List Fate) : Nat := l.foldl (fun m f => max m (canN f w s.joints.length)) 0
theorem foldl_min {α : Type} (g : α → Nat) : ∀ (l : List α) (m z : Nat), z ≤ l.foldl (fun m f => min m (g f)) m ↔ z ≤ m ∧ ∀ f ∈ l, z ≤ g f
  | [], m, z => by simp
  | f :: l, m, z => by
    rw [List.foldl_cons, foldl_min g l]
    simp only [List.mem_cons, forall_eq_or_imp]
    constructor
    · rintro ⟨h1, h2⟩; exact ⟨by omega, by omega, h2⟩
    · rintro ⟨h1, h2, h3⟩; exact ⟨by omega, h3⟩
theorem foldl_max {α : Type} (g : α → Nat) : ∀ (l : List α) (m z : Nat), l.foldl (fun m f => max m (g f)) m ≤ z ↔ m ≤ z ∧ ∀ f ∈ l, g f ≤ z
  | [], m, z => by simp
  | f :: l, m, z => by
    rw [List.foldl_cons, foldl_max g l]
    simp only [List.mem_cons, forall_eq_or_imp]
    constructor
    · rintro ⟨h1, h2⟩; exact ⟨by omega, by omega, h2⟩
    · rintro ⟨h1, h2, h3⟩; exact ⟨by omega, h3⟩
/-- The order of the fates does not matter. -/
theorem soundLo_same {s : Season} {w : Nat} {l l' : List Fate} (h : ∀ f, f ∈ l ↔ f ∈ l') : soundLo s w l = soundLo s w l' := by
  refine Nat.le_antisymm ?_ ?_
  · exact (foldl_min _ _ _ _).2 (by have := (foldl_min (fun f => mustN f w s.joints.length) l s.joints.length (soundLo s w l)).1 (Nat.le_refl _); exact ⟨this.1, fun f hf => this.2 f ((h f).2 hf)⟩)
  · exact (foldl_min _ _ _ _).2 (by have := (foldl_min (fun f => mustN f w s.joints.length) l' s.joints.length (soundLo s w l')).1 (Nat.le_refl _); exact ⟨this.1, fun f hf => this.2 f ((h f).1 hf)⟩)
theorem soundHi_same {s : Season} {w : Nat} {l l' : List Fate} (h : ∀ f, f ∈ l ↔ f ∈ l') : soundHi s w l = soundHi s w l' := by
  refine Nat.le_antisymm ?_ ?_
  · exact (foldl_max _ _ _ _).2 (by have := (foldl_max (fun f => canN f w s.joints.length) l' 0 (soundHi s w l')).1 (Nat.le_refl _); exact ⟨this.1, fun f hf => this.2 f ((h f).1 hf)⟩)
  · exact (foldl_max _ _ _ _).2 (by have := (foldl_max (fun f => canN f w s.joints.length) l 0 (soundHi s w l)).1 (Nat.le_refl _); exact ⟨this.1, fun f hf => this.2 f ((h f).2 hf)⟩)
def soundE (s : Season) (w : Int) : Int := knownM s [isWeekM s w]
def soundV (s : Season) (w : Int) : Rg := if soundE s w = 0 then ⟨soundLo s w.toNat (allFates s), soundHi s w.toNat (allFates s)⟩ else ⟨0, 0⟩
theorem mustN_le (f : Fate) (w : Nat) : ∀ n, mustN f w n ≤ n
  | 0 => Nat.le_refl _
  | n + 1 => by have := mustN_le f w n; rw [mustN]; split <;> omega
theorem canN_le (f : Fate) (w : Nat) : ∀ n, canN f w n ≤ n
  | 0 => Nat.le_refl _
  | n + 1 => by have := canN_le f w n; rw [canN]; split <;> omega
end Go.Wx
/- Walks: the weather that there can be. Conditions: as each theorem states. -/
namespace Go.Proofs.Ytndfkbapoinmkaa
open Go Go.HL Go.Proofs Go.Wx
set_option maxRecDepth 100000
theorem weather1_ask (w : Int) (b1 : Nat) (h : AH) (e1 : h b1 = some (.cells #[.int .i64 w] 3 (0, 0))) :
    AskT (.func (.func 113) #[] #[.pointer (some ⟨b1, 0, none⟩)]) h (kindE w) := by
  intro h' E _
  refine callV_fn (caps := [.pointer (some ⟨b1, 0, none⟩)]) rfl ?_
  refine call_body Try.func113 rfl Try.ntmps113 rfl ?_
  refine xp_seq ?_
  refine xp_region rfl ?_
  refine op_pure (pv_assign (v := .int .i64 _) rfl) ?_
  refine xp_seq ?_
  refine xp_seq ?_
  refine xp_region rfl ?_
  refine op_load (v := .int .i64 _) rfl rfl (by simp only [cellA, E _ _ e1]; rfl) ?_
  refine op_fn (caps := []) (vs := [.int .i64 _, .int .i64 _, .int .i64 _]) rfl rfl rfl (in_ok _ _ _ h') ?_
  rintro _ h3 E3 rfl
  refine op_pure (pv_of (v := .bool _) rfl) ?_
  refine xp_cond rfl (fun ht => ?_) (fun ht => ?_)
  · skip
    have hb := inM_not ht
    refine xp_seq ?_
    refine xp_region rfl ?_
    refine op_pure (pv_assign (v := .int .i64 _) rfl) ?_
    refine xp_ret ?_
    refine res_list (vs := [_]) Try.results113 ⟨resV_tmp rfl rfl, trivial⟩ fun V => ?_
    refine ⟨(Ext.trans E3 (ext_wl V)), intE ?_⟩
    unfold kindE
    rw [hb]; rfl
  · skip
    have hb := inM_yes ht
    refine xp_skip ?_
    refine xp_seq ?_
    refine xp_region rfl ?_
    refine op_pure (pv_assign (v := .int .i64 _) rfl) ?_
    refine xp_ret ?_
    refine res_list (vs := [_]) Try.results113 ⟨resV_tmp rfl rfl, trivial⟩ fun V => ?_
    refine ⟨(Ext.trans E3 (ext_wl V)), intE ?_⟩
    unfold kindE
    rw [hb]; rfl
set_option maxHeartbeats 4000000 in
theorem Weather_ok (s : Season) (Sm : Small s) (kd : Int) (A0 A1 A2 A3 : Option Addr) (c0 c1 c2 c3 : Nat) (h : AH) (R : SeasonR h A0 A1 A2 A3 s) :
    FnT Try.prog 48 #[seasonV A0 A1 A2 A3 c0 c1 c2 c3 s, .int .i64 kd] h (fun v h' => ∃ u, v = .tuple #[u, .int .i64 (weatherE s kd)] ∧ SlR h' 2 rgC (weatherL s kd) u) := by
  by_cases he : weatherE s kd = 0
  · have hk := knownM_zero he
    have SV := checkM_zero hk.1
    have hw6 := SV.b.w6
    have hkd : kd = 1 ∨ kd = 2 := kindE_zero (firstErr_zero (f := id) hk.2.1 (kindE kd) (by simp))
    have hpos := may_pos hk.2.2 hkd
    have hsk : (skM s kd).length ≤ 729 := skK_len SV.b kd (allSkies s kd).length
    refine call_body Try.func48 rfl Try.ntmps48 rfl ?_
    refine xp_seq ?_
    refine xp_region rfl ?_
    refine op_box (v := .agg #[.slice _ _ _, .slice _ _ _, .slice _ _ _, .slice _ _ _]) (cs := [_, _, _, _]) rfl rfl fun b2 hb2 => ?_
    refine wp_norm [_] rfl ?_
    refine op_box (v := .int .i64 _) (cs := [_]) rfl rfl fun b3 hb3 => ?_
    refine wp_norm [_, _] rfl ?_
    refine op_pure (pv_assign (v := .slice _ _ _) rfl) ?_
    refine op_pure (pv_assign (v := .int .i64 _) rfl) ?_
    refine goes_pub 1 rfl ?_
    intro h1 E1 p1
    refine goes_more ?_
    refine goes_norm [_, _, _] rfl ?_
    refine xp_seq ?_
    refine xp_region rfl ?_
    refine op_loadPA 0 (vs := [.slice _ _ _, .slice _ _ _, .slice _ _ _, .slice _ _ _]) rfl rfl rfl rfl rfl ?_
    refine op_pure (pv_makeFunc (vs := []) (ws := [_]) rfl rfl) ?_
    refine op_buildSlice (zc := [_]) (vs := [(0, _)]) (cs := [_]) rfl rfl rfl rfl rfl rfl rfl fun b17 hb17 => ?_
    refine wp_norm [_, _, _, _] rfl ?_
    refine wp_pub 3 rfl rfl ?_
    intro h2 E2 p17
    refine wp_norm [_, _, _, _] rfl ?_
    refine op_fn (caps := []) (vs := [.agg #[.slice _ _ _, .slice _ _ _, .slice _ _ _, .slice _ _ _], .slice _ _ _]) rfl rfl rfl (known_yes s A0 A1 A2 A3 c0 c1 c2 c3 h2 (R.ext (Ext.trans E1 E2)) Sm.h0 Sm.h1 Sm.h2 Sm.h3 [_] [_] _ _ (rowFn p17) rfl (by simp) (ask1 ((weather1_ask kd b3 _ p1).ext E2)) he) ?_
    rintro _ h3 E3 ⟨A, c, mf, fm, fl, A', c', mf', fm', fl', rfl, X, X'⟩
    refine op_pure (pv_move (v := .tuple #[.agg #[.slice _ _ _, .map _, .map _, .map _, .map _, .slice _ _ _, .map _, .map _, .map _, .map _], .int .i64 _]) rfl) ?_
    refine op_pure (pv_of (v := .agg #[.slice _ _ _, .map _, .map _, .map _, .map _, .slice _ _ _, .map _, .map _, .map _, .map _]) rfl) ?_
    refine op_pure (pv_of (v := .int .i64 _) rfl) ?_
    refine op_alloc (cs := [_, _, _, _, _, _, _, _, _, _]) rfl rfl fun b6 hb6 => ?_
    refine wp_norm [_, _, _, _, _] rfl ?_
    refine op_storeP 4 (v := .agg #[.slice _ _ _, .map _, .map _, .map _, .map _, .slice _ _ _, .map _, .map _, .map _, .map _]) (vs := [_, _, _, _, _, _, _, _, _, _]) (c' := [_, _, _, _, _, _, _, _, _, _]) rfl rfl rfl rfl rfl rfl rfl rfl rfl ?_
    refine wp_norm [_, _, _, _, _] rfl ?_
    refine op_pure (pv_assign (v := .int .i64 _) rfl) ?_
    refine xp_seq ?_
    refine xp_seq ?_
    refine xp_region rfl ?_
    refine op_pure (pv_move (v := .int .i64 _) rfl) ?_
    refine op_pure (pv_of (v := .bool _) rfl) ?_
    refine xp_condF rfl (by decide) ?_
    refine xp_skip ?_
    refine xp_seq ?_
    refine xp_region rfl ?_
    refine op_loadPA 4 (vs := [.slice _ _ _, .map _, .map _, .map _, .map _, .slice _ _ _, .map _, .map _, .map _, .map _]) rfl rfl rfl rfl rfl ?_
    refine op_load (v := .int .i64 _) rfl rfl (by simp only [cellA, (Ext.trans E2 E3) _ _ p1]; rfl) ?_
    refine op_fn (caps := []) (vs := [.agg #[.slice _ _ _, .map _, .map _, .map _, .map _, .slice _ _ _, .map _, .map _, .map _, .map _], .int .i64 _]) rfl rfl rfl (of2_ok s kd hkd A c mf fm fl A' c' mf' fm' fl' h3 (X.ext (Ext.refl _)) (X'.ext (Ext.refl _))) ?_
    rintro _ h4 E4 ⟨AK, cK, mK, fmK, flK, rfl, XK⟩
    refine op_pure (pv_of (v := .slice _ _ _) rfl) ?_
    refine op_pure (pv_assign (v := .slice _ _ _) rfl) ?_
    refine xp_seq ?_
    refine xp_region rfl ?_
    refine op_pure (pv_assign (v := .slice _ _ _) rfl) ?_
    refine xp_seq ?_
    refine xp_seq ?_
    refine xp_region rfl ?_
    refine op_pure (pv_fieldAddr rfl rfl rfl rfl 0 rfl) ?_
    refine op_loadP 0 (v := .slice _ _ _) rfl rfl rfl rfl ?_
    refine op_pure (pv_len rfl rfl) ?_
    refine op_pure (pv_move (v := .int .i64 _) rfl) ?_
    refine xp_block ?_
    refine xp_loopL [9, 10, 11, 13, 31, 32, 33, 34, 35, 36, 37, 38, 39, 40, 41, 42, 43, 44, 45, 46, 47, 48, 49, 50, 51, 52, 53, 54, 55, 56, 57, 58, 59, 60, 61, 62, 63, 64, 65, 66, 67, 68, 69] 5 (α := Nat × Acc) (fun ⟨w, a⟩ => [(31, .int .i64 w), (9, .slice a.A a.n a.c)]) (fun ⟨w, a⟩ L => L.set 2 (a.p)) (fun ⟨w, a⟩ h_w => w ≤ s.heats.length ∧ AccR 51 2 (((List.range w).map (weekR (skM s kd))).flatMap rgC) a) (fun ⟨w, a⟩ => s.heats.length - w) ((0, acc0)) ⟨rfl, rfl, trivial⟩ (rfl) (⟨Nat.zero_le _, accR0⟩) ?_
    rintro ⟨w, a⟩ T1 h_w E_w J_w
    refine goes_norm [_, _, _, _, _] rfl ?_
    obtain ⟨K1, K2⟩ := J_w
    refine xp_seq ?_
    refine xp_region rfl ?_
    refine op_pure (pv_of (v := .bool _) rfl) ?_
    refine xp_seq ?_
    refine xp_cond rfl (fun hw => ?_) (fun hw => ?_)
    · skip
      have hwl : w < s.heats.length := ltI hw
      obtain ⟨g, off, hA, hc0⟩ := (XK.sk.ext E_w).at (by omega) hpos
      have hw6' : w < 6 := by omega
      have hhd : (skM s kd).headD sky0 = (skM s kd)[0] := by simp [List.headD_eq_head?_getD, List.head?_eq_getElem?, List.getElem?_eq_getElem hpos]
      have hcw := hc0 w _ (skyC_at _ w hw6')
      refine xp_skip ?_
      refine xp_seq ?_
      refine xp_block ?_
      refine xp_seq ?_
      refine xp_region rfl ?_
      refine op_pure (pv_move (v := .int .i64 _) rfl) ?_
      refine op_pure (pv_assign (v := .int .i64 _) rfl) ?_
      refine xp_seq ?_
      refine xp_dw [] rfl rfl rfl ?_
      refine dw_pure (i := 0) rfl (by decide +kernel) (pv_move (v := .slice _ _ _) rfl) ?_
      refine dw_pure (i := 1) rfl (by decide +kernel) (pv_move (v := .int .i64 _) rfl) ?_
      refine dw_pure (i := 2) rfl (by decide +kernel) (pv_indexE rfl hA rfl rfl rfl (by omega) (by omega)) ?_
      refine dw_pure (i := 3) rfl (by decide +kernel) (pv_indexA (m := 1) rfl rfl rfl rfl (by omega) (by omega)) ?_
      refine dw_load (i := 4) rfl (by decide +kernel) ?_
      refine op_load (v := .int .i64 ((skM s kd)[0].at w)) rfl rfl (by simpa using hcw) ?_
      refine dw_pure (i := 5) rfl (by decide +kernel) (pv_move (v := .slice _ _ _) rfl) ?_
      refine dw_pure (i := 6) rfl (by decide +kernel) (pv_move (v := .int .i64 _) rfl) ?_
      refine dw_pure (i := 7) rfl (by decide +kernel) (pv_indexE rfl hA rfl rfl rfl (by omega) (by omega)) ?_
      refine dw_pure (i := 8) rfl (by decide +kernel) (pv_indexA (m := 1) rfl rfl rfl rfl (by omega) (by omega)) ?_
      refine dw_load (i := 9) rfl (by decide +kernel) ?_
      refine op_load (v := .int .i64 ((skM s kd)[0].at w)) rfl rfl (by simpa using hcw) ?_
      refine dw_pure (i := 10) rfl (by decide +kernel) (pv_build (zc := [_, _]) (vs := [(0, .int .i64 _), (1, .int .i64 _)]) (cs := [_, _]) rfl rfl rfl rfl rfl rfl) ?_
      refine dw_eff (i := 11) rfl (by decide +kernel) ?_
      refine op_alloc (cs := [_, _]) rfl rfl fun b11 hb11 => ?_
      refine ⟨ext_new hb11 _, ?_⟩
      refine dw_norm [_, _, _, _, _, _] rfl ?_
      refine dw_last (i := 12) rfl (by decide +kernel) (by decide +kernel) ?_
      refine op_storeP 5 (v := .agg #[.int .i64 _, .int .i64 _]) (vs := [_, _]) (c' := [_, _]) rfl rfl rfl rfl rfl rfl rfl rfl rfl ?_
      refine dw_norm [_, _, _, _, _, _] rfl ?_
      refine dw_end rfl ?_
      refine xp_seq ?_
      refine xp_seq ?_
      refine xp_region rfl ?_
      refine op_pure (pv_move (v := .slice _ _ _) rfl) ?_
      refine op_pure (pv_len rfl rfl) ?_
      refine op_pure (pv_move (v := .int .i64 _) rfl) ?_
      refine xp_block ?_
      refine xp_loopL [13, 47, 48, 49, 50, 51, 52, 53, 54, 55, 56, 57, 58, 59, 60, 61, 62, 63, 64] 6 (α := Nat) (fun k => [(47, .int .i64 k)]) (fun k L => L.set 5 (some (b11, .cells #[.int .i64 (loK (skM s kd) w k), .int .i64 (hiK (skM s kd) w k)] 51 (0, 0)))) (fun k h_k => k ≤ (skM s kd).length) (fun k => (skM s kd).length - k) (0) ⟨rfl, trivial⟩ (by rw [loK, hiK, hhd]; rfl) (Nat.zero_le _) ?_
      rintro k T2 h_k E_k J_k
      refine goes_norm [_, _, _, _, _, _] rfl ?_
      refine xp_seq ?_
      refine xp_region rfl ?_
      refine op_pure (pv_of (v := .bool _) rfl) ?_
      refine xp_seq ?_
      refine xp_cond rfl (fun hk2 => ?_) (fun hk2 => ?_)
      · skip
        have hkl : k < (skM s kd).length := ltI hk2
        obtain ⟨g2, off2, hA2, hck⟩ := (XK.sk.ext (Ext.trans E_w E_k)).at (by omega) hkl
        refine xp_skip ?_
        refine xp_seq ?_
        refine xp_block ?_
        refine xp_seq ?_
        refine xp_region rfl ?_
        refine op_pure (pv_indexE rfl hA2 rfl rfl rfl (by omega) (by omega)) ?_
        refine op_loadA rfl rfl rfl rfl (hck) ?_
        refine op_alloc (cs := [_, _, _, _, _, _]) rfl rfl fun b13 hb13 => ?_
        refine wp_norm [_, _, _, _, _, _, _] rfl ?_
        refine op_storeP 6 (v := .agg #[.int .i64 _, .int .i64 _, .int .i64 _, .int .i64 _, .int .i64 _, .int .i64 _]) (vs := [_, _, _, _, _, _]) (c' := [_, _, _, _, _, _]) rfl rfl rfl rfl rfl rfl rfl rfl rfl ?_
        refine wp_norm [_, _, _, _, _, _, _] rfl ?_
        refine xp_dw [] rfl rfl rfl ?_
        refine dw_pure (i := 0) rfl (by decide +kernel) (pv_fieldAddr rfl rfl rfl rfl 0 rfl) ?_
        refine dw_load (i := 1) rfl (by decide +kernel) ?_
        refine op_loadP 5 (v := .int .i64 _) rfl rfl rfl rfl ?_
        refine dw_pure (i := 2) rfl (by decide +kernel) (pv_move (v := .int .i64 _) rfl) ?_
        refine dw_pure (i := 3) rfl (by decide +kernel) (pv_indexA rfl rfl rfl rfl (by omega) (by omega)) ?_
        refine dw_load (i := 4) rfl (by decide +kernel) ?_
        refine op_loadP 6 (v := .int .i64 ((skM s kd)[k].at w)) rfl rfl rfl (skyArr (skM s kd)[k] w hw6') ?_
        refine dw_pure (i := 5) rfl (by decide +kernel) (pv_min rfl rfl) ?_
        refine dw_pure (i := 6) rfl (by decide +kernel) (pv_fieldAddr rfl rfl rfl rfl 1 rfl) ?_
        refine dw_load (i := 7) rfl (by decide +kernel) ?_
        refine op_loadP 5 (v := .int .i64 _) rfl rfl rfl rfl ?_
        refine dw_pure (i := 8) rfl (by decide +kernel) (pv_move (v := .int .i64 _) rfl) ?_
        refine dw_pure (i := 9) rfl (by decide +kernel) (pv_indexA rfl rfl rfl rfl (by omega) (by omega)) ?_
        refine dw_load (i := 10) rfl (by decide +kernel) ?_
        refine op_loadP 6 (v := .int .i64 ((skM s kd)[k].at w)) rfl rfl rfl (skyArr (skM s kd)[k] w hw6') ?_
        refine dw_pure (i := 11) rfl (by decide +kernel) (pv_max rfl rfl) ?_
        refine dw_pure (i := 12) rfl (by decide +kernel) (pv_build (zc := [_, _]) (vs := [(0, .int .i64 _), (1, .int .i64 _)]) (cs := [_, _]) rfl rfl rfl rfl rfl rfl) ?_
        refine dw_last (i := 13) rfl (by decide +kernel) (by decide +kernel) ?_
        refine op_storeP 5 (v := .agg #[.int .i64 _, .int .i64 _]) (vs := [_, _]) (c' := [_, _]) rfl rfl rfl rfl rfl rfl rfl rfl rfl ?_
        refine dw_norm [_, _, _, _, _, _, _] rfl ?_
        refine dw_end rfl ?_
        refine xp_region rfl ?_
        refine op_pure (pv_arith rfl (by omega)) ?_
        refine op_pure (pv_move (v := .int .i64 _) rfl) ?_
        refine ⟨k + 1, ⟨rfl, trivial⟩, rfl, by rw [loK_succ hkl, hiK_succ hkl]; rfl, E_k, fun h3 E3 => hkl, by first | omega | (dsimp only; omega), ?_⟩
        repeat (first | exact off_base _ _ _ | refine off_upd (by decide) ?_ | refine off_updL rfl ?_ | refine off_mix rfl ?_)
      · skip
        have hke : k = (skM s kd).length := by have := geI hk2; omega
        subst hke
        refine xp_exit ?_
        refine xp_region rfl ?_
        refine op_pure (pv_move (v := .slice _ _ _) rfl) ?_
        refine op_loadPA 5 (vs := [.int .i64 _, .int .i64 _]) rfl rfl rfl rfl rfl ?_
        refine op_buildSlice (zc := [_, _]) (vs := [(0, .agg #[.int .i64 _, .int .i64 _])]) (cs := [_, _]) rfl rfl rfl rfl rfl rfl rfl fun b67 hb67 => ?_
        refine wp_norm [_, _, _, _, _, _, _] rfl ?_
        refine op_appendR 2 K2 rfl rfl rfl (fun V => rdP V (i := 6) rfl) rfl rfl rfl rfl rfl rfl rfl rfl rfl (by omega) rfl (by rw [flat_len (m := 2) (fun _ _ => rfl)]; simp; omega) fun a2 h3a E3a ha2 => ?_
        refine wp_norm [_, _, _, _, _, _, _] rfl ?_
        refine op_pure (pv_assign (v := .slice _ _ _) rfl) ?_
        refine xp_region rfl ?_
        refine op_pure (pv_arith rfl (by omega)) ?_
        refine op_pure (pv_move (v := .int .i64 _) rfl) ?_
        refine ⟨(w + 1, a2), ⟨rfl, rfl, trivial⟩, rfl, rfl, (Ext.trans (Ext.trans E_w E_k) E3a), fun h3 E3 => ⟨hwl, by rw [List.range_succ, List.map_append, List.flatMap_append]; exact ha2⟩, by first | omega | (dsimp only; omega), ?_⟩
        repeat (first | exact off_base _ _ _ | refine off_upd (by decide) ?_ | refine off_updL rfl ?_ | refine off_mix rfl ?_)
    · skip
      have hwe : w = s.heats.length := by have := geI hw; omega
      subst hwe
      refine xp_exit ?_
      refine xp_seq ?_
      refine xp_region rfl ?_
      refine op_pure (pv_move (v := .slice _ _ _) rfl) ?_
      refine op_pure (pv_assign (v := .slice _ _ _) rfl) ?_
      refine op_pure (pv_assign (v := .int .i64 _) rfl) ?_
      refine xp_ret ?_
      refine res_list (vs := [_, _]) Try.results48 ⟨resV_tmp rfl rfl, resV_tmp rfl rfl, trivial⟩ fun V => ?_
      refine ⟨(Ext.trans (Ext.trans (Ext.trans (Ext.trans (Ext.trans E1 E2) E3) E4) E_w) (ext_wl V)), _, by rw [he]; rfl, ?_⟩
      rw [weatherL, if_pos he]
      exact AccP.row (i := 2) K2 (by omega) (fun _ _ => rfl) V rfl
  · skip
    refine call_body Try.func48 rfl Try.ntmps48 rfl ?_
    refine xp_seq ?_
    refine xp_region rfl ?_
    refine op_box (v := .agg #[.slice _ _ _, .slice _ _ _, .slice _ _ _, .slice _ _ _]) (cs := [_, _, _, _]) rfl rfl fun b2 hb2 => ?_
    refine wp_norm [_] rfl ?_
    refine op_box (v := .int .i64 _) (cs := [_]) rfl rfl fun b3 hb3 => ?_
    refine wp_norm [_, _] rfl ?_
    refine op_pure (pv_assign (v := .slice _ _ _) rfl) ?_
    refine op_pure (pv_assign (v := .int .i64 _) rfl) ?_
    refine goes_pub 1 rfl ?_
    intro h1 E1 p1
    refine xp_seq ?_
    refine xp_region rfl ?_
    refine op_loadPA 0 (vs := [.slice _ _ _, .slice _ _ _, .slice _ _ _, .slice _ _ _]) rfl rfl rfl rfl rfl ?_
    refine op_pure (pv_makeFunc (vs := []) (ws := [_]) rfl rfl) ?_
    refine op_buildSlice (zc := [_]) (vs := [(0, _)]) (cs := [_]) rfl rfl rfl rfl rfl rfl rfl fun b17 hb17 => ?_
    refine wp_norm [_, _, _] rfl ?_
    refine wp_pub 2 rfl rfl ?_
    intro h2 E2 p17
    refine wp_norm [_, _, _] rfl ?_
    refine op_fn (caps := []) (vs := [.agg #[.slice _ _ _, .slice _ _ _, .slice _ _ _, .slice _ _ _], .slice _ _ _]) rfl rfl rfl (known_no s A0 A1 A2 A3 c0 c1 c2 c3 h2 (R.ext (Ext.trans E1 E2)) Sm.h0 Sm.h1 Sm.h2 Sm.h3 [_] [_] _ _ (rowFn p17) rfl (by simp) (ask1 ((weather1_ask kd b3 _ p1).ext E2)) he) ?_
    rintro _ h3 E3 rfl
    refine op_pure (pv_move (v := .tuple #[.agg #[.slice _ _ _, .map _, .map _, .map _, .map _, .slice _ _ _, .map _, .map _, .map _, .map _], .int .i64 _]) rfl) ?_
    refine op_pure (pv_of (v := .agg #[.slice _ _ _, .map _, .map _, .map _, .map _, .slice _ _ _, .map _, .map _, .map _, .map _]) rfl) ?_
    refine op_pure (pv_of (v := .int .i64 _) rfl) ?_
    refine op_alloc (cs := [_, _, _, _, _, _, _, _, _, _]) rfl rfl fun b6 hb6 => ?_
    refine wp_norm [_, _, _, _] rfl ?_
    refine op_storeP 3 (v := .agg #[.slice _ _ _, .map _, .map _, .map _, .map _, .slice _ _ _, .map _, .map _, .map _, .map _]) (vs := [_, _, _, _, _, _, _, _, _, _]) (c' := [_, _, _, _, _, _, _, _, _, _]) rfl rfl rfl rfl rfl rfl rfl rfl rfl ?_
    refine wp_norm [_, _, _, _] rfl ?_
    refine op_pure (pv_assign (v := .int .i64 _) rfl) ?_
    refine xp_seq ?_
    refine xp_seq ?_
    refine xp_region rfl ?_
    refine op_pure (pv_move (v := .int .i64 _) rfl) ?_
    refine op_pure (pv_of (v := .bool _) rfl) ?_
    refine xp_condT rfl (by simpa [weatherE] using he) ?_
    refine xp_seq ?_
    refine xp_region rfl ?_
    refine op_pure (pv_move (v := .int .i64 _) rfl) ?_
    refine op_pure (pv_assign (v := .slice _ _ _) rfl) ?_
    refine op_pure (pv_assign (v := .int .i64 _) rfl) ?_
    refine xp_ret ?_
    refine res_list (vs := [_, _]) Try.results48 ⟨resV_tmp rfl rfl, resV_tmp rfl rfl, trivial⟩ fun V => ?_
    refine ⟨(Ext.trans (Ext.trans (Ext.trans E1 E2) E3) (ext_wl V)), _, rfl, none, 0, ?_, ?_⟩
    · rw [weatherL, if_neg he]; rfl
    · rw [weatherL, if_neg he]; exact ⟨fun _ h => (by cases h), Rd.nil _ _⟩
end Go.Proofs.Ytndfkbapoinmkaa
/- Walks: how many joints are sound. Conditions: as each theorem states. -/
namespace Go.Proofs.Ytndfkbapoinmkaa
open Go Go.HL Go.Proofs Go.Wx
set_option maxRecDepth 100000
/-- What holds between the rounds. -/
def SoundI (s : Season) (w : Nat) (pre : Pv) (b8 l : Nat) (r : Loop) (h0 : AH) (done : List Fate) (h : AH) (M : Pv) : Prop :=
  Ext h0 h ∧ M = pre ++ [some (b8, .cells #[.int .i64 (soundLo s w done : Nat), .int .i64 (soundHi s w done : Nat)] 51 (0, 0)), some (l, obL r .ready none)]
theorem minN (a b : Nat) : ((min a b : Nat) : Int) = min (a : Int) (b : Int) := by omega
theorem maxN (a b : Nat) : ((max a b : Nat) : Int) = max (a : Int) (b : Int) := by omega
set_option maxHeartbeats 4000000 in
theorem Sound_ok (s : Season) (Sm : Small s) (week : Int) (A0 A1 A2 A3 : Option Addr) (c0 c1 c2 c3 : Nat) (h : AH) (R : SeasonR h A0 A1 A2 A3 s) :
    FnT Try.prog 45 #[seasonV A0 A1 A2 A3 c0 c1 c2 c3 s, .int .i64 week] h (fun v h' => v = .tuple #[rgV (soundV s week), .int .i64 (soundE s week)]) := by
  by_cases he : soundE s week = 0
  · have hk := knownM_zero he
    have SV := checkM_zero hk.1
    have hw6 := SV.b.w6
    have hj3 := SV.b.j3
    obtain ⟨w, rfl, hw⟩ := isWeekM_zero (s := s) (w := week) (firstErr_zero (f := id) hk.2.1 (isWeekM s week) (by simp))
    refine call_body Try.func45 rfl Try.ntmps45 rfl ?_
    refine xp_seq ?_
    refine xp_region rfl ?_
    refine op_box (v := .agg #[.slice _ _ _, .slice _ _ _, .slice _ _ _, .slice _ _ _]) (cs := [_, _, _, _]) rfl rfl fun b2 hb2 => ?_
    refine wp_norm [_] rfl ?_
    refine op_box (v := .int .i64 _) (cs := [_]) rfl rfl fun b3 hb3 => ?_
    refine wp_norm [_, _] rfl ?_
    refine op_alloc (cs := [_, _]) rfl rfl fun b4 hb4 => ?_
    refine wp_norm [_, _, _] rfl ?_
    refine op_pure (pv_assign (v := .int .i64 _) rfl) ?_
    refine xp_seq ?_
    refine xp_dw [] rfl rfl rfl ?_
    refine dw_load (i := 0) rfl (by decide +kernel) ?_
    refine op_loadPA 0 (vs := [.slice _ _ _, .slice _ _ _, .slice _ _ _, .slice _ _ _]) rfl rfl rfl rfl rfl ?_
    refine dw_load (i := 1) rfl (by decide +kernel) ?_
    refine op_loadPA 0 (vs := [.slice _ _ _, .slice _ _ _, .slice _ _ _, .slice _ _ _]) rfl rfl rfl rfl rfl ?_
    refine dw_load (i := 2) rfl (by decide +kernel) ?_
    refine op_loadP 1 (v := .int .i64 _) rfl rfl rfl rfl ?_
    refine dw_eff (i := 3) rfl (by decide +kernel) ?_
    refine op_fn (caps := []) (vs := [.agg #[.slice _ _ _, .slice _ _ _, .slice _ _ _, .slice _ _ _], .int .i64 _]) rfl rfl rfl (isWeek_ok s w A0 A1 A2 A3 c0 c1 c2 c3 Sm.h0 h) ?_
    rintro _ h1 E1 ⟨fn, caps, rfl, ak⟩
    refine ⟨ext_wlm E1 _, ?_⟩
    refine dw_eff (i := 4) rfl (by decide +kernel) ?_
    refine op_buildSlice (zc := [_]) (vs := [(0, _)]) (cs := [_]) rfl rfl rfl rfl rfl rfl rfl fun b18 hb18 => ?_
    refine ⟨ext_new hb18 _, ?_⟩
    refine dw_norm [_, _, _, _] rfl ?_
    refine dw_pub 3 rfl ?_
    intro h2 E2 p18
    refine dw_norm [_, _, _, _] rfl ?_
    refine dw_last (i := 5) rfl (by decide +kernel) (by decide +kernel) ?_
    refine op_fn (caps := []) (vs := [.agg #[.slice _ _ _, .slice _ _ _, .slice _ _ _, .slice _ _ _], .slice _ _ _]) rfl rfl rfl (known_yes s A0 A1 A2 A3 c0 c1 c2 c3 h2 (R.ext (Ext.trans E1 E2)) Sm.h0 Sm.h1 Sm.h2 Sm.h3 [_] [_] _ _ (rowFn p18) rfl (by simp) (ask1 (ak.ext E2)) he) ?_
    rintro _ h3 E3 ⟨A, c, mf, fm, fl, A', c', mf', fm', fl', rfl, X, X'⟩
    refine dw_pure (i := 6) rfl (by decide +kernel) (pv_move (v := .tuple #[.agg #[.slice _ _ _, .map _, .map _, .map _, .map _, .slice _ _ _, .map _, .map _, .map _, .map _], .int .i64 _]) rfl) ?_
    refine dw_pure (i := 7) rfl (by decide +kernel) (pv_of (v := .agg #[.slice _ _ _, .map _, .map _, .map _, .map _, .slice _ _ _, .map _, .map _, .map _, .map _]) rfl) ?_
    refine dw_pure (i := 8) rfl (by decide +kernel) (pv_of (v := .int .i64 _) rfl) ?_
    refine dw_eff (i := 9) rfl (by decide +kernel) ?_
    refine op_alloc (cs := [_, _, _, _, _, _, _, _, _, _]) rfl rfl fun b6 hb6 => ?_
    refine ⟨ext_new hb6 _, ?_⟩
    refine dw_norm [_, _, _, _, _] rfl ?_
    refine dw_last (i := 10) rfl (by decide +kernel) (by decide +kernel) ?_
    refine op_storeP 4 (v := .agg #[.slice _ _ _, .map _, .map _, .map _, .map _, .slice _ _ _, .map _, .map _, .map _, .map _]) (vs := [_, _, _, _, _, _, _, _, _, _]) (c' := [_, _, _, _, _, _, _, _, _, _]) rfl rfl rfl rfl rfl rfl rfl rfl rfl ?_
    refine dw_norm [_, _, _, _, _] rfl ?_
    refine dw_pure (i := 11) rfl (by decide +kernel) (pv_assign (v := .int .i64 _) rfl) ?_
    refine dw_end rfl ?_
    refine xp_seq ?_
    refine xp_seq ?_
    refine xp_region rfl ?_
    refine op_pure (pv_move (v := .int .i64 _) rfl) ?_
    refine op_pure (pv_of (v := .bool _) rfl) ?_
    refine xp_condF rfl (by decide) ?_
    refine xp_skip ?_
    refine xp_seq ?_
    refine xp_region rfl ?_
    refine op_pure (pv_fieldAddr rfl rfl rfl rfl 2 rfl) ?_
    refine op_loadP 0 (v := .slice _ _ _) rfl rfl rfl rfl ?_
    refine op_pure (pv_len rfl rfl) ?_
    refine op_pure (pv_build (zc := [_, _]) (vs := [(0, .int .i64 _), (1, .int .i64 _)]) (cs := [_, _]) rfl rfl rfl rfl rfl rfl) ?_
    refine op_alloc (cs := [_, _]) rfl rfl fun b8 hb8 => ?_
    refine wp_norm [_, _, _, _, _, _] rfl ?_
    refine op_storeP 5 (v := .agg #[.int .i64 _, .int .i64 _]) (vs := [_, _]) (c' := [_, _]) rfl rfl rfl rfl rfl rfl rfl rfl rfl ?_
    refine wp_norm [_, _, _, _, _, _] rfl ?_
    refine xp_seq ?_
    refine xp_seq ?_
    refine xp_region rfl ?_
    refine op_loadPA 4 (vs := [.slice _ _ _, .map _, .map _, .map _, .map _, .slice _ _ _, .map _, .map _, .map _, .map _]) rfl rfl rfl rfl rfl ?_
    refine op_fn (caps := []) (vs := [.agg #[.slice _ _ _, .map _, .map _, .map _, .map _, .slice _ _ _, .map _, .map _, .map _, .map _]]) rfl rfl rfl (fates_ok s SV A c mf fm fl A' c' mf' fm' fl' h3 (X.ext (Ext.refl _)) (X'.ext (Ext.refl _))) ?_
    rintro y h4 E4 It
    refine xp_block ?_
    refine xp_rangeFunc rfl ?_
    intro r l lp htm hpr has hbd V0
    refine CallV.mono (It (.yield l) #[] #[] (SoundI s w [_, _, _, _, _] b8 l lp h4) (fun k h1 h2 M E I => ⟨I.1.trans E, I.2⟩) ?_ h4 _ (Ext.refl _) ⟨Ext.refl _, rfl⟩ V0) ?_ (fun _ _ y => y)
    · intro done f hc M hf I
      obtain ⟨E0, rfl⟩ := I
      have fb := allFates_b hw6 hf
      intro V
      refine callV_yield (wl_get V (i := 6) rfl) hpr rfl htm has hbd ?_
      refine round_enter (i := 6) (r := lp) ?_ V
      refine goes_norm [_, _, _, _, _, _, _] rfl ?_
      refine xp_region rfl ?_
      refine op_alloc (cs := [_, _, _]) rfl rfl fun b9 hb9 => ?_
      refine wp_norm [_, _, _, _, _, _, _, _] rfl ?_
      refine op_storeP 7 (v := .agg #[.int .u64 _, .int .u64 _, .int .u64 _]) (vs := [_, _, _]) (c' := [_, _, _]) rfl rfl rfl rfl rfl rfl rfl rfl rfl ?_
      refine wp_norm [_, _, _, _, _, _, _, _] rfl ?_
      refine ⟨rfl, none, rfl, ?_⟩
      refine goes_norm [_, _, _, _, _, _, _, _] rfl ?_
      refine xp_block ?_
      refine xp_seq ?_
      refine xp_region rfl ?_
      refine op_pure (pv_assign (v := .int .i64 _) rfl) ?_
      refine op_pure (pv_assign (v := .int .i64 _) rfl) ?_
      refine xp_seq ?_
      refine xp_seq ?_
      refine xp_region rfl ?_
      refine op_pure (pv_fieldAddr rfl rfl rfl rfl 2 rfl) ?_
      refine op_loadP 0 (v := .slice _ _ _) rfl rfl rfl rfl ?_
      refine op_pure (pv_len rfl rfl) ?_
      refine op_pure (pv_move (v := .int .i64 _) rfl) ?_
      refine xp_block ?_
      refine xp_loopB [10, 11, 12, 36, 37, 38, 39, 40, 41, 42, 43, 44, 45, 46, 47, 48, 49, 50, 51, 52, 53, 54, 55, 56, 57, 58] 8 (α := Nat) (fun i => [(36, .int .i64 i), (10, .int .i64 (mustN f w i : Nat)), (11, .int .i64 (canN f w i : Nat))]) (fun i => _) (fun i h_i => i ≤ s.joints.length) (fun i => s.joints.length - i) (0) ⟨rfl, rfl, rfl, trivial⟩ (rfl) (Nat.zero_le _) ?_
      rintro i T1 h_i E_i J_i
      refine goes_norm [_, _, _, _, _, _, _, _] rfl ?_
      refine xp_seq ?_
      refine xp_region rfl ?_
      refine op_pure (pv_of (v := .bool _) rfl) ?_
      refine xp_seq ?_
      refine xp_cond rfl (fun hti => ?_) (fun hti => ?_)
      · skip
        have hil := ltI hti
        have hi3 : i < 3 := by omega
        have fbi := fb.at i
        have hm := mustN_le f w i
        have hcn := canN_le f w i
        refine xp_skip ?_
        refine xp_seq ?_
        refine xp_block ?_
        refine xp_seq ?_
        refine xp_region rfl ?_
        refine op_pure (pv_move (v := .int .i64 _) rfl) ?_
        refine op_pure (pv_assign (v := .int .i64 _) rfl) ?_
        refine xp_cutB [10, 39, 40, 41, 42, 43, 44, 45, 46] 8 (α := Unit) (fun u => [(10, .int .i64 (mustN f w (i + 1) : Nat))]) (fun u L => L) (fun u h_u => True) ?_ ?_
        · skip
          refine xp_seq ?_
          refine xp_dw [] rfl rfl rfl ?_
          refine dw_pure (i := 0) rfl (by decide +kernel) (pv_move (v := .int .i64 _) rfl) ?_
          refine dw_pure (i := 1) rfl (by decide +kernel) (pv_indexA rfl rfl rfl rfl (by omega) (by omega)) ?_
          refine dw_load (i := 2) rfl (by decide +kernel) ?_
          refine op_loadP 7 (v := .int .u64 (f.at i : Nat)) rfl rfl rfl (fate_arr f i hi3) ?_
          refine dw_load (i := 3) rfl (by decide +kernel) ?_
          refine op_loadP 1 (v := .int .i64 _) rfl rfl rfl rfl ?_
          refine dw_last (i := 4) rfl (by decide +kernel) (by decide +kernel) ?_
          refine op_fn (caps := []) (vs := [.int .u64 _, .int .i64 _]) rfl rfl rfl (upto_ok (f.at i) w (by omega) (by omega) h_i) ?_
          rintro _ h5 E5 rfl
          refine dw_pure (i := 5) rfl (by decide +kernel) (pv_of (v := .bool _) rfl) ?_
          refine dw_end rfl ?_
          refine xp_cond rfl (fun hu => ?_) (fun hu => ?_)
          · skip
            have hu' : uptoM (f.at i) w = 0 := by simpa using hu
            refine xp_region rfl ?_
            refine op_pure (pv_move (v := .int .i64 _) rfl) ?_
            refine op_pure (pv_arith rfl (by omega)) ?_
            refine op_pure (pv_assign (v := .int .i64 _) rfl) ?_
            refine ⟨(), ⟨intE (by rw [mustN, if_pos hu']; omega), trivial⟩, rfl, rfl, E5, fun h3 E3 => by first | trivial | omega | (refine ⟨?_, ?_⟩ <;> omega), ?_⟩
            repeat (first | exact off_refl _ _ | exact off_base _ _ _ | refine off_upd (by decide) ?_ | refine off_updL rfl ?_ | refine off_mix rfl ?_)
          · skip
            have hu' : ¬ uptoM (f.at i) w = 0 := by simpa using hu
            refine xp_skip ?_
            refine ⟨(), ⟨intE (by rw [mustN, if_neg hu']; omega), trivial⟩, rfl, rfl, E5, fun h3 E3 => by first | trivial | omega | (refine ⟨?_, ?_⟩ <;> omega), ?_⟩
            repeat (first | exact off_refl _ _ | exact off_base _ _ _ | refine off_upd (by decide) ?_ | refine off_updL rfl ?_ | refine off_mix rfl ?_)
        · rintro u T2 h_u E_u J_u
          refine goes_norm [_, _, _, _, _, _, _, _] rfl ?_
          refine xp_seq ?_
          refine xp_dw [] rfl rfl rfl ?_
          refine dw_pure (i := 0) rfl (by decide +kernel) (pv_move (v := .int .i64 _) rfl) ?_
          refine dw_pure (i := 1) rfl (by decide +kernel) (pv_indexA rfl rfl rfl rfl (by omega) (by omega)) ?_
          refine dw_load (i := 2) rfl (by decide +kernel) ?_
          refine op_loadP 7 (v := .int .u64 (f.at i : Nat)) rfl rfl rfl (fate_arr f i hi3) ?_
          refine dw_pure (i := 3) rfl (by decide +kernel) (pv_move (v := .int .i64 _) rfl) ?_
          refine dw_pure (i := 4) rfl (by decide +kernel) (pv_indexA rfl rfl rfl rfl (by omega) (by omega)) ?_
          refine dw_load (i := 5) rfl (by decide +kernel) ?_
          refine op_loadP 7 (v := .int .u64 (f.at i : Nat)) rfl rfl rfl (fate_arr f i hi3) ?_
          refine dw_load (i := 6) rfl (by decide +kernel) ?_
          refine op_loadP 1 (v := .int .i64 _) rfl rfl rfl rfl ?_
          refine dw_eff (i := 7) rfl (by decide +kernel) ?_
          refine op_fn (caps := []) (vs := [.int .u64 _, .int .i64 _]) rfl rfl rfl (upto_ok (f.at i) w (by omega) (by omega) h_u) ?_
          rintro _ h5 E5 rfl
          refine ⟨ext_wlm E5 _, ?_⟩
          refine dw_pure (i := 8) rfl (by decide +kernel) (pv_of (v := .bool _) rfl) ?_
          refine dw_end rfl ?_
          refine xp_cond rfl (fun hu => ?_) (fun hu => ?_)
          · skip
            have hu' : f.at i ≠ uptoM (f.at i) w := by
              intro e
              rw [← e] at hu
              simp at hu
            refine xp_region rfl ?_
            refine op_pure (pv_move (v := .int .i64 _) rfl) ?_
            refine op_pure (pv_arith rfl (by omega)) ?_
            refine op_pure (pv_assign (v := .int .i64 _) rfl) ?_
            refine xp_region rfl ?_
            refine op_pure (pv_arith rfl (by omega)) ?_
            refine op_pure (pv_move (v := .int .i64 _) rfl) ?_
            refine ⟨i + 1, ⟨rfl, rfl, intE (by rw [canN, if_pos hu']; omega), trivial⟩, rfl, rfl, (Ext.trans (Ext.trans E_i E_u) E5), fun h3 E3 => by omega, by first | omega | (dsimp only; omega), ?_⟩
            repeat (first | exact off_base _ _ _ | refine off_upd (by decide) ?_ | refine off_updL rfl ?_ | refine off_mix rfl ?_)
          · skip
            have hu' : ¬ f.at i ≠ uptoM (f.at i) w := by
              intro e
              simp at hu
              exact e (by exact_mod_cast hu)
            refine xp_skip ?_
            refine xp_region rfl ?_
            refine op_pure (pv_arith rfl (by omega)) ?_
            refine op_pure (pv_move (v := .int .i64 _) rfl) ?_
            refine ⟨i + 1, ⟨rfl, rfl, intE (by rw [canN, if_neg hu']; omega), trivial⟩, rfl, rfl, (Ext.trans (Ext.trans E_i E_u) E5), fun h3 E3 => by omega, by first | omega | (dsimp only; omega), ?_⟩
            repeat (first | exact off_base _ _ _ | refine off_upd (by decide) ?_ | refine off_updL rfl ?_ | refine off_mix rfl ?_)
      · skip
        have hie : i = s.joints.length := by have := geI hti; omega
        subst hie
        refine xp_exit ?_
        refine xp_region rfl ?_
        refine op_pure (pv_fieldAddr rfl rfl rfl rfl 0 rfl) ?_
        refine op_loadP 5 (v := .int .i64 _) rfl rfl rfl rfl ?_
        refine op_pure (pv_move (v := .int .i64 _) rfl) ?_
        refine op_pure (pv_min rfl rfl) ?_
        refine op_pure (pv_fieldAddr rfl rfl rfl rfl 1 rfl) ?_
        refine op_loadP 5 (v := .int .i64 _) rfl rfl rfl rfl ?_
        refine op_pure (pv_move (v := .int .i64 _) rfl) ?_
        refine op_pure (pv_max rfl rfl) ?_
        refine op_pure (pv_build (zc := [_, _]) (vs := [(0, .int .i64 _), (1, .int .i64 _)]) (cs := [_, _]) rfl rfl rfl rfl rfl rfl) ?_
        refine op_storeP 5 (v := .agg #[.int .i64 _, .int .i64 _]) (vs := [_, _]) (c' := [_, _]) rfl rfl rfl rfl rfl rfl rfl rfl rfl ?_
        refine wp_norm [_, _, _, _, _, _, _, _] rfl ?_
        intro V2
        refine ⟨rfl, ⟨_, _, rfl⟩, ?_⟩
        have V3 := valid_set (o' := obL lp .ready none) V2 (i := 6) rfl
        obtain ⟨h9, E9, e9, V9⟩ := wl_drop [_] [_, _, _, _, _, _, _] V3
        refine ⟨h9, _, e9, V9, Ext.trans E_i E9, rfl, Ext.trans (Ext.trans E0 E_i) E9, ?_⟩
        have eL : soundLo s w (done ++ [f]) = min (soundLo s w done) (mustN f w s.joints.length) := by unfold soundLo; rw [List.foldl_append]; rfl
        have eH : soundHi s w (done ++ [f]) = max (soundHi s w done) (canN f w s.joints.length) := by unfold soundHi; rw [List.foldl_append]; rfl
        rw [eL, eH, minN, maxN]
        rfl
    · rintro v H ⟨h', M', rfl, V', E', done, hdone, E0, rfl⟩
      refine ⟨h', [_, _, _, _, _, _], .ready, none, rfl, V', by simp, fun h'' E'' => ?_⟩
      refine goes_norm [_, _, _, _, _, _] rfl ?_
      refine xp_seq ?_
      refine xp_region rfl ?_
      refine op_loadPA 5 (vs := [.int .i64 _, .int .i64 _]) rfl rfl rfl rfl rfl ?_
      refine op_storeP 2 (v := .agg #[.int .i64 _, .int .i64 _]) (vs := [_, _]) (c' := [_, _]) rfl rfl rfl rfl rfl rfl rfl rfl rfl ?_
      refine wp_norm [_, _, _, _, _, _] rfl ?_
      refine op_pure (pv_assign (v := .int .i64 _) rfl) ?_
      refine xp_ret ?_
      refine res_listM (vs := [_, _]) rfl Try.results45 ⟨resV_agg 2 rfl rfl rfl rfl rfl (vs := [.int .i64 _, .int .i64 _]) rfl, resV_tmp rfl rfl, trivial⟩ fun hM EM V => ?_
      refine ⟨Ext.trans (Ext.trans (Ext.trans (Ext.trans (Ext.trans (Ext.trans E1 E2) E3) E4) E') E'') (Ext.trans EM (ext_wl V)), ?_⟩
      rw [soundV, if_pos he, Int.toNat_natCast, ← soundLo_same hdone, ← soundHi_same hdone, he]
      rfl
  · skip
    refine call_body Try.func45 rfl Try.ntmps45 rfl ?_
    refine xp_seq ?_
    refine xp_region rfl ?_
    refine op_box (v := .agg #[.slice _ _ _, .slice _ _ _, .slice _ _ _, .slice _ _ _]) (cs := [_, _, _, _]) rfl rfl fun b2 hb2 => ?_
    refine wp_norm [_] rfl ?_
    refine op_box (v := .int .i64 _) (cs := [_]) rfl rfl fun b3 hb3 => ?_
    refine wp_norm [_, _] rfl ?_
    refine op_alloc (cs := [_, _]) rfl rfl fun b4 hb4 => ?_
    refine wp_norm [_, _, _] rfl ?_
    refine op_pure (pv_assign (v := .int .i64 _) rfl) ?_
    refine xp_seq ?_
    refine xp_dw [] rfl rfl rfl ?_
    refine dw_load (i := 0) rfl (by decide +kernel) ?_
    refine op_loadPA 0 (vs := [.slice _ _ _, .slice _ _ _, .slice _ _ _, .slice _ _ _]) rfl rfl rfl rfl rfl ?_
    refine dw_load (i := 1) rfl (by decide +kernel) ?_
    refine op_loadPA 0 (vs := [.slice _ _ _, .slice _ _ _, .slice _ _ _, .slice _ _ _]) rfl rfl rfl rfl rfl ?_
    refine dw_load (i := 2) rfl (by decide +kernel) ?_
    refine op_loadP 1 (v := .int .i64 _) rfl rfl rfl rfl ?_
    refine dw_eff (i := 3) rfl (by decide +kernel) ?_
    refine op_fn (caps := []) (vs := [.agg #[.slice _ _ _, .slice _ _ _, .slice _ _ _, .slice _ _ _], .int .i64 _]) rfl rfl rfl (isWeek_ok s week A0 A1 A2 A3 c0 c1 c2 c3 Sm.h0 h) ?_
    rintro _ h1 E1 ⟨fn, caps, rfl, ak⟩
    refine ⟨ext_wlm E1 _, ?_⟩
    refine dw_eff (i := 4) rfl (by decide +kernel) ?_
    refine op_buildSlice (zc := [_]) (vs := [(0, _)]) (cs := [_]) rfl rfl rfl rfl rfl rfl rfl fun b18 hb18 => ?_
    refine ⟨ext_new hb18 _, ?_⟩
    refine dw_norm [_, _, _, _] rfl ?_
    refine dw_pub 3 rfl ?_
    intro h2 E2 p18
    refine dw_norm [_, _, _, _] rfl ?_
    refine dw_last (i := 5) rfl (by decide +kernel) (by decide +kernel) ?_
    refine op_fn (caps := []) (vs := [.agg #[.slice _ _ _, .slice _ _ _, .slice _ _ _, .slice _ _ _], .slice _ _ _]) rfl rfl rfl (known_no s A0 A1 A2 A3 c0 c1 c2 c3 h2 (R.ext (Ext.trans E1 E2)) Sm.h0 Sm.h1 Sm.h2 Sm.h3 [_] [_] _ _ (rowFn p18) rfl (by simp) (ask1 (ak.ext E2)) he) ?_
    rintro _ h3 E3 rfl
    refine dw_pure (i := 6) rfl (by decide +kernel) (pv_move (v := .tuple #[.agg #[.slice _ _ _, .map _, .map _, .map _, .map _, .slice _ _ _, .map _, .map _, .map _, .map _], .int .i64 _]) rfl) ?_
    refine dw_pure (i := 7) rfl (by decide +kernel) (pv_of (v := .agg #[.slice _ _ _, .map _, .map _, .map _, .map _, .slice _ _ _, .map _, .map _, .map _, .map _]) rfl) ?_
    refine dw_pure (i := 8) rfl (by decide +kernel) (pv_of (v := .int .i64 _) rfl) ?_
    refine dw_eff (i := 9) rfl (by decide +kernel) ?_
    refine op_alloc (cs := [_, _, _, _, _, _, _, _, _, _]) rfl rfl fun b6 hb6 => ?_
    refine ⟨ext_new hb6 _, ?_⟩
    refine dw_norm [_, _, _, _, _] rfl ?_
    refine dw_last (i := 10) rfl (by decide +kernel) (by decide +kernel) ?_
    refine op_storeP 4 (v := .agg #[.slice _ _ _, .map _, .map _, .map _, .map _, .slice _ _ _, .map _, .map _, .map _, .map _]) (vs := [_, _, _, _, _, _, _, _, _, _]) (c' := [_, _, _, _, _, _, _, _, _, _]) rfl rfl rfl rfl rfl rfl rfl rfl rfl ?_
    refine dw_norm [_, _, _, _, _] rfl ?_
    refine dw_pure (i := 11) rfl (by decide +kernel) (pv_assign (v := .int .i64 _) rfl) ?_
    refine dw_end rfl ?_
    refine xp_seq ?_
    refine xp_seq ?_
    refine xp_region rfl ?_
    refine op_pure (pv_move (v := .int .i64 _) rfl) ?_
    refine op_pure (pv_of (v := .bool _) rfl) ?_
    refine xp_condT rfl (by simpa [soundE] using he) ?_
    refine xp_seq ?_
    refine xp_region rfl ?_
    refine op_pure (pv_build (zc := [_, _]) (vs := []) (cs := [_, _]) rfl rfl rfl rfl rfl rfl) ?_
    refine op_pure (pv_move (v := .int .i64 _) rfl) ?_
    refine op_storeP 2 (v := .agg #[.int .i64 _, .int .i64 _]) (vs := [_, _]) (c' := [_, _]) rfl rfl rfl rfl rfl rfl rfl rfl rfl ?_
    refine wp_norm [_, _, _, _, _] rfl ?_
    refine op_pure (pv_assign (v := .int .i64 _) rfl) ?_
    refine xp_ret ?_
    refine res_list (vs := [_, _]) Try.results45 ⟨resV_agg 2 rfl rfl rfl rfl rfl (vs := [.int .i64 _, .int .i64 _]) rfl, resV_tmp rfl rfl, trivial⟩ fun V => ?_
    refine ⟨(Ext.trans (Ext.trans (Ext.trans E1 E2) E3) (ext_wl V)), ?_⟩
    rw [soundV, if_neg he]; rfl
end Go.Proofs.Ytndfkbapoinmkaa
/- Walks: small functions of the laws. Conditions: as each theorem states. -/
namespace Go.Proofs.Ytndfkbapoinmkaa
open Go Go.HL Go.Proofs Go.Wx
set_option maxRecDepth 100000
theorem Odds_ok (b x : Nat) (n m : Int) (hm : -2 ^ 30 ≤ m ∧ m ≤ 2 ^ 30) (h : AH) : FnM Try.prog (.func (.func 62) #[] ([] : List Value).toArray) [.pointer (some ⟨b, 0, none⟩), .int .i64 n, .int .i64 m] h [some (b, .cells #[.int .u64 (x : Int)] 95 (0, 0))]
    (fun v h' M' => ∃ (x' : Nat) (u : Bool), M' = [some (b, .cells #[.int .u64 (x' : Int)] 95 (0, 0))] ∧ v = .bool u) := by
  refine fnM_body rfl rfl Try.func62 rfl Try.ntmps62 rfl ?_
  refine xp_seq ?_
  refine xp_region rfl ?_
  refine op_pure (pv_assign (v := .bool _) rfl) ?_
  refine xp_seq ?_
  refine xp_region rfl ?_
  refine op_pure (pv_move (v := .pointer (some ⟨b, 0, none⟩)) rfl) ?_
  refine op_pure (pv_move (v := .int .i64 _) rfl) ?_
  refine op_pure (pv_arith rfl (by omega)) ?_
  refine op_fnMM [] [_] [] (vs := [.pointer _, .int .i64 _]) rfl rfl rfl ((Upto_ok b x (m - 1) (by omega) h)) ?_
  rintro _ h2 _ E2 ⟨x2, k, rfl, rfl, k1, k2⟩
  refine wp_norm [_] rfl ?_
  refine op_pure (pv_move (v := .int .i64 _) rfl) ?_
  refine op_pure (pv_of (v := .bool _) rfl) ?_
  refine op_pure (pv_assign (v := .bool _) rfl) ?_
  refine xp_ret ?_
  refine res_list (vs := [_]) Try.results62 ⟨resV_tmp rfl rfl, trivial⟩ fun V => ?_
  exact ⟨_, [_], rfl, V, E2, x2, _, rfl, rfl⟩
theorem place_ok (l : List Int) (z : Int) (A : Option Addr) (c : Nat) (h : AH) (R : Row h 1 intC A l) (hl : l.length < 2 ^ 40) :
    FnT Try.prog 61 #[.slice A l.length c, .int .i64 z] h (fun v _ => ∃ i : Int, v = .int .i64 i ∧ (0 ≤ i ↔ z ∈ l)) := by
  refine call_body Try.func61 rfl Try.ntmps61 rfl ?_
  refine xp_seq ?_
  refine xp_region rfl ?_
  refine op_pure (pv_assign (v := .int .i64 _) rfl) ?_
  refine xp_seq ?_
  refine xp_seq ?_
  refine xp_region rfl ?_
  refine op_pure (pv_assign (v := .int .i64 _) rfl) ?_
  refine xp_block ?_
  refine xp_loopB [4, 5, 6, 7, 8, 9, 10, 11, 12, 13, 14, 15, 16, 17, 18] 0 (α := Nat) (fun k => [(5, .int .i64 k)]) (fun k => _) (fun k h_k => k ≤ l.length ∧ z ∉ l.take k) (fun k => l.length - k) (0) ⟨rfl, trivial⟩ (rfl) (⟨Nat.zero_le _, by simp⟩) ?_
  rintro k T1 h_k E_k J_k
  refine goes_norm [] rfl ?_
  obtain ⟨K1, K2⟩ := J_k
  refine xp_seq ?_
  refine xp_seq ?_
  refine xp_region rfl ?_
  refine op_pure (pv_move (v := .int .i64 _) rfl) ?_
  refine op_pure (pv_move (v := .slice _ _ _) rfl) ?_
  refine op_pure (pv_len rfl rfl) ?_
  refine op_pure (pv_of (v := .bool _) rfl) ?_
  refine xp_cond rfl (fun hk => ?_) (fun hk => ?_)
  · skip
    have hkl : k < l.length := ltI hk
    obtain ⟨g, off, hA, hc⟩ := (R.ext E_k).at (by omega) hkl
    refine xp_skip ?_
    refine xp_seq ?_
    refine xp_block ?_
    refine xp_seq ?_
    refine xp_region rfl ?_
    refine op_pure (pv_move (v := .slice _ _ _) rfl) ?_
    refine op_pure (pv_move (v := .int .i64 _) rfl) ?_
    refine op_pure (pv_indexE rfl hA rfl rfl rfl (by omega) (by omega)) ?_
    refine op_load (v := .int .i64 _) rfl rfl ((hc) 0 _ rfl) ?_
    refine op_pure (pv_move (v := .int .i64 _) rfl) ?_
    refine op_pure (pv_of (v := .bool _) rfl) ?_
    refine xp_cond rfl (fun he => ?_) (fun he => ?_)
    · skip
      have he' : l[k] = z := by simpa using he
      have hz : z ∈ l := by rw [← he']; exact List.getElem_mem hkl
      refine xp_seq ?_
      refine xp_region rfl ?_
      refine op_pure (pv_move (v := .int .i64 _) rfl) ?_
      refine op_pure (pv_assign (v := .int .i64 _) rfl) ?_
      refine xp_ret ?_
      refine res_list (vs := [_]) Try.results61 ⟨resV_tmp rfl rfl, trivial⟩ fun V => ?_
      exact ⟨(Ext.trans E_k (ext_wl V)), k, rfl, fun _ => hz, fun _ => by omega⟩
    · skip
      have he' : ¬ l[k] = z := by simpa using he
      refine xp_skip ?_
      refine xp_region rfl ?_
      refine op_pure (pv_move (v := .int .i64 _) rfl) ?_
      refine op_pure (pv_arith rfl (by omega)) ?_
      refine op_pure (pv_assign (v := .int .i64 _) rfl) ?_
      refine ⟨k + 1, ⟨rfl, trivial⟩, rfl, rfl, E_k, fun h3 E3 => ⟨hkl, by rw [take_snoc hkl, List.mem_append, List.mem_singleton]; exact fun h => h.elim K2 (fun e => he' e.symm)⟩, by first | omega | (dsimp only; omega), ?_⟩
      repeat (first | exact off_base _ _ _ | refine off_upd (by decide) ?_ | refine off_updL rfl ?_ | refine off_mix rfl ?_)
  · skip
    have hke : k = l.length := by have := geI hk; omega
    subst hke
    rw [List.take_length] at K2
    refine xp_exit ?_
    refine xp_seq ?_
    refine xp_region rfl ?_
    refine op_pure (pv_assign (v := .int .i64 _) rfl) ?_
    refine xp_ret ?_
    refine res_list (vs := [_]) Try.results61 ⟨resV_tmp rfl rfl, trivial⟩ fun V => ?_
    exact ⟨(Ext.trans E_k (ext_wl V)), -1, rfl, fun h => absurd h (by decide), fun h => absurd h K2⟩
theorem In_ok (x : Rg) (n : Int) (h : AH) : FnT Try.prog 70 #[rgV x, .int .i64 n] h (fun v _ => v = .bool (decide (x.mn ≤ n) && decide (n ≤ x.mx))) := by
  refine call_body Try.func70 rfl Try.ntmps70 rfl ?_
  refine xp_seq ?_
  refine xp_region rfl ?_
  refine op_box (v := .agg #[.int .i64 _, .int .i64 _]) (cs := [_, _]) rfl rfl fun b2 hb2 => ?_
  refine wp_norm [_] rfl ?_
  refine op_pure (pv_assign (v := .bool _) rfl) ?_
  refine xp_seq ?_
  refine xp_region rfl ?_
  refine op_pure (pv_fieldAddr rfl rfl rfl rfl 0 rfl) ?_
  refine op_loadP 0 (v := .int .i64 _) rfl rfl rfl rfl ?_
  refine op_pure (pv_move (v := .int .i64 _) rfl) ?_
  refine op_pure (pv_of (v := .bool _) rfl) ?_
  refine op_pure (pv_move (v := .bool _) rfl) ?_
  rcases Bool.eq_false_or_eq_true (decide (x.mn ≤ n)) with e | e
  · skip
    refine guard_yes rfl e ?_
    refine op_pure (pv_move (v := .int .i64 _) rfl) ?_
    refine guard_yes rfl e ?_
    refine op_pure (pv_fieldAddr rfl rfl rfl rfl 1 rfl) ?_
    refine guard_yes rfl e ?_
    refine op_loadP 0 (v := .int .i64 _) rfl rfl rfl rfl ?_
    refine guard_yes rfl e ?_
    refine op_pure (pv_of (v := .bool _) rfl) ?_
    refine op_pure (pv_pickT rfl e (v := .bool _) rfl) ?_
    refine op_pure (pv_assign (v := .bool _) rfl) ?_
    refine xp_ret ?_
    refine res_list (vs := [_]) Try.results70 ⟨resV_tmp rfl rfl, trivial⟩ fun V => ?_
    exact ⟨(ext_wl V), by rw [e]; rfl⟩
  · skip
    refine guard_no rfl e ?_
    refine guard_no rfl e ?_
    refine guard_no rfl e ?_
    refine guard_no rfl e ?_
    refine op_pure (pv_pickF rfl e (v := .bool _) rfl) ?_
    refine op_pure (pv_assign (v := .bool _) rfl) ?_
    refine xp_ret ?_
    refine res_list (vs := [_]) Try.results70 ⟨resV_tmp rfl rfl, trivial⟩ fun V => ?_
    exact ⟨(ext_wl V), by rw [e]; rfl⟩
theorem Wider_ok (x y : Rg) (h : AH) : FnT Try.prog 60 #[rgV x, rgV y] h (fun v _ => v = .bool (decide (x.mn ≤ y.mn) && decide (y.mx ≤ x.mx))) := by
  refine call_body Try.func60 rfl Try.ntmps60 rfl ?_
  refine xp_seq ?_
  refine xp_region rfl ?_
  refine op_box (v := .agg #[.int .i64 _, .int .i64 _]) (cs := [_, _]) rfl rfl fun b2 hb2 => ?_
  refine wp_norm [_] rfl ?_
  refine op_box (v := .agg #[.int .i64 _, .int .i64 _]) (cs := [_, _]) rfl rfl fun b3 hb3 => ?_
  refine wp_norm [_, _] rfl ?_
  refine op_pure (pv_assign (v := .bool _) rfl) ?_
  refine xp_seq ?_
  refine xp_region rfl ?_
  refine op_pure (pv_fieldAddr rfl rfl rfl rfl 0 rfl) ?_
  refine op_loadP 0 (v := .int .i64 _) rfl rfl rfl rfl ?_
  refine op_pure (pv_fieldAddr rfl rfl rfl rfl 0 rfl) ?_
  refine op_loadP 1 (v := .int .i64 _) rfl rfl rfl rfl ?_
  refine op_pure (pv_of (v := .bool _) rfl) ?_
  refine op_pure (pv_move (v := .bool _) rfl) ?_
  rcases Bool.eq_false_or_eq_true (decide (x.mn ≤ y.mn)) with e | e
  · skip
    refine guard_yes rfl e ?_
    refine op_pure (pv_fieldAddr rfl rfl rfl rfl 1 rfl) ?_
    refine guard_yes rfl e ?_
    refine op_loadP 1 (v := .int .i64 _) rfl rfl rfl rfl ?_
    refine guard_yes rfl e ?_
    refine op_pure (pv_fieldAddr rfl rfl rfl rfl 1 rfl) ?_
    refine guard_yes rfl e ?_
    refine op_loadP 0 (v := .int .i64 _) rfl rfl rfl rfl ?_
    refine guard_yes rfl e ?_
    refine op_pure (pv_of (v := .bool _) rfl) ?_
    refine op_pure (pv_pickT rfl e (v := .bool _) rfl) ?_
    refine op_pure (pv_assign (v := .bool _) rfl) ?_
    refine xp_ret ?_
    refine res_list (vs := [_]) Try.results60 ⟨resV_tmp rfl rfl, trivial⟩ fun V => ?_
    exact ⟨(ext_wl V), by rw [e]; rfl⟩
  · skip
    refine guard_no rfl e ?_
    refine guard_no rfl e ?_
    refine guard_no rfl e ?_
    refine guard_no rfl e ?_
    refine guard_no rfl e ?_
    refine op_pure (pv_pickF rfl e (v := .bool _) rfl) ?_
    refine op_pure (pv_assign (v := .bool _) rfl) ?_
    refine xp_ret ?_
    refine res_list (vs := [_]) Try.results60 ⟨resV_tmp rfl rfl, trivial⟩ fun V => ?_
    exact ⟨(ext_wl V), by rw [e]; rfl⟩
theorem Narrow_ok (b x : Nat) (r : Rg) (n : Int) (h1 : -2 ^ 30 ≤ r.mn) (h2 : r.mn ≤ n) (h3 : n ≤ r.mx) (h4 : r.mx ≤ 2 ^ 30) (h : AH) : FnM Try.prog (.func (.func 57) #[] ([] : List Value).toArray) [.pointer (some ⟨b, 0, none⟩), rgV r, .int .i64 n] h [some (b, .cells #[.int .u64 (x : Int)] 95 (0, 0))]
    (fun v h' M' => ∃ (x' : Nat) (q : Rg), M' = [some (b, .cells #[.int .u64 (x' : Int)] 95 (0, 0))] ∧ v = rgV q ∧ r.mn ≤ q.mn ∧ q.mn ≤ n ∧ n ≤ q.mx ∧ q.mx ≤ r.mx) := by
  refine fnM_body rfl rfl Try.func57 rfl Try.ntmps57 rfl ?_
  refine xp_seq ?_
  refine xp_region rfl ?_
  refine op_box (v := .agg #[.int .i64 _, .int .i64 _]) (cs := [_, _]) rfl rfl fun b4 hb4 => ?_
  refine wp_norm [_, _] rfl ?_
  refine op_alloc (cs := [_, _]) rfl rfl fun b6 hb6 => ?_
  refine wp_norm [_, _, _] rfl ?_
  refine xp_seq ?_
  refine xp_dw [true, false, false] rfl rfl rfl ?_
  refine dw_pure (i := 0) rfl (by decide +kernel) (pv_move (v := .pointer (some ⟨b, 0, none⟩)) rfl) ?_
  refine dw_pure (i := 1) rfl (by decide +kernel) (pv_fieldAddr rfl rfl rfl rfl 0 rfl) ?_
  refine dw_load (i := 2) rfl (by decide +kernel) ?_
  refine op_loadP 1 (v := .int .i64 _) rfl rfl rfl rfl ?_
  refine dw_pure (i := 3) rfl (by decide +kernel) (pv_move (v := .int .i64 _) rfl) ?_
  refine dw_pure (i := 4) rfl (by decide +kernel) (pv_move (v := .pointer (some ⟨b, 0, none⟩)) rfl) ?_
  refine dw_pure (i := 5) rfl (by decide +kernel) (pv_fieldAddr rfl rfl rfl rfl 0 rfl) ?_
  refine dw_load (i := 6) rfl (by decide +kernel) ?_
  refine op_loadP 1 (v := .int .i64 _) rfl rfl rfl rfl ?_
  refine dw_pure (i := 7) rfl (by decide +kernel) (pv_move (v := .int .i64 _) rfl) ?_
  refine dw_pure (i := 11) rfl (by decide +kernel) (pv_move (v := .pointer (some ⟨b, 0, none⟩)) rfl) ?_
  refine dw_pure (i := 12) rfl (by decide +kernel) (pv_fieldAddr rfl rfl rfl rfl 1 rfl) ?_
  refine dw_load (i := 13) rfl (by decide +kernel) ?_
  refine op_loadP 1 (v := .int .i64 _) rfl rfl rfl rfl ?_
  refine dw_pure (i := 14) rfl (by decide +kernel) (pv_move (v := .int .i64 _) rfl) ?_
  refine dw_pure (i := 15) rfl (by decide +kernel) (pv_move (v := .pointer (some ⟨b, 0, none⟩)) rfl) ?_
  refine dw_pure (i := 16) rfl (by decide +kernel) (pv_move (v := .int .i64 _) rfl) ?_
  refine dw_pure (i := 17) rfl (by decide +kernel) (pv_fieldAddr rfl rfl rfl rfl 1 rfl) ?_
  refine dw_load (i := 18) rfl (by decide +kernel) ?_
  refine op_loadP 1 (v := .int .i64 _) rfl rfl rfl rfl ?_
  refine dw_eff (i := 8) rfl (by decide +kernel) ?_
  refine op_fnMM [] [_] [_, _] (vs := [.pointer _, .int .i64 _, .int .i64 _]) rfl rfl rfl ((Within_ok b x r.mn n (by omega) (by omega) (by omega) h)) ?_
  rintro _ g2 _ E2 ⟨x2, k2, rfl, rfl, k21, k22⟩
  refine ⟨ext_wlm E2 _, ?_⟩
  refine dw_norm [_, _, _] rfl ?_
  refine dw_eff (i := 9) rfl (by decide +kernel) ?_
  refine op_buildSlice (zc := [_]) (vs := [(0, .int .i64 _), (1, .int .i64 _), (2, .int .i64 _)]) (cs := [_, _, _]) rfl rfl rfl rfl rfl rfl rfl fun b16 hb16 => ?_
  refine ⟨ext_newM hb16 _, ?_⟩
  refine dw_norm [_, _, _, _] rfl ?_
  refine dw_pubM 3 rfl ?_
  intro g3 E3 p3
  refine dw_norm [_, _, _, _] rfl ?_
  refine dw_eff (i := 10) rfl (by decide +kernel) ?_
  refine op_fnMM [] [_] [_, _, _] (vs := [.pointer _, .slice _ _ _]) rfl rfl rfl ((Of_ok b x2 [r.mn, n, k2] (by simp) (by simp) _ _ g3 (row_of_block (enc := intC) (m := 1) (l := [r.mn, n, k2]) (fun _ _ => rfl) p3))) ?_
  rintro _ g4 _ E4 ⟨x4, k4, rfl, rfl, k4m⟩
  refine ⟨ext_wlm E4 _, ?_⟩
  refine dw_norm [_, _, _, _] rfl ?_
  have k4b : r.mn ≤ k4 ∧ k4 ≤ n := by simp at k4m; omega
  refine dw_eff (i := 19) rfl (by decide +kernel) ?_
  refine op_fnMM [] [_] [_, _, _] (vs := [.pointer _, .int .i64 _, .int .i64 _]) rfl rfl rfl ((Within_ok b x4 n r.mx (by omega) (by omega) (by omega) g4)) ?_
  rintro _ g5 _ E5 ⟨x5, k5, rfl, rfl, k51, k52⟩
  refine ⟨ext_wlm E5 _, ?_⟩
  refine dw_norm [_, _, _, _] rfl ?_
  refine dw_last (i := 20) rfl (by decide +kernel) (by decide +kernel) ?_
  refine op_buildSlice (zc := [_]) (vs := [(0, .int .i64 _), (1, .int .i64 _), (2, .int .i64 _)]) (cs := [_, _, _]) rfl rfl rfl rfl rfl rfl rfl fun b27 hb27 => ?_
  refine dw_norm [_, _, _, _, _] rfl ?_
  refine dw_pubM 4 rfl ?_
  intro g6 E6 p6
  refine dw_norm [_, _, _, _, _] rfl ?_
  refine dw_last (i := 21) rfl (by decide +kernel) (by decide +kernel) ?_
  refine op_fnMM [] [_] [_, _, _, _] (vs := [.pointer _, .slice _ _ _]) rfl rfl rfl ((Of_ok b x5 [r.mx, n, k5] (by simp) (by simp) _ _ g6 (row_of_block (enc := intC) (m := 1) (l := [r.mx, n, k5]) (fun _ _ => rfl) p6))) ?_
  rintro _ g7 _ E7 ⟨x7, k7, rfl, rfl, k7m⟩
  refine dw_norm [_, _, _, _, _] rfl ?_
  have k7b : n ≤ k7 ∧ k7 ≤ r.mx := by simp at k7m; omega
  refine dw_pure (i := 22) rfl (by decide +kernel) (pv_build (zc := [_, _]) (vs := [(0, .int .i64 _), (1, .int .i64 _)]) (cs := [_, _]) rfl rfl rfl rfl rfl rfl) ?_
  refine dw_last (i := 23) rfl (by decide +kernel) (by decide +kernel) ?_
  refine op_storeP 2 (v := .agg #[.int .i64 _, .int .i64 _]) (vs := [_, _]) (c' := [_, _]) rfl rfl rfl rfl rfl rfl rfl rfl rfl ?_
  refine dw_norm [_, _, _, _, _] rfl ?_
  refine dw_end rfl ?_
  refine xp_ret ?_
  refine res_list (vs := [_]) Try.results57 ⟨resV_agg 2 rfl rfl rfl rfl rfl (vs := [.int .i64 _, .int .i64 _]) rfl, trivial⟩ fun V => ?_
  obtain ⟨h9, E9, e9, V9⟩ := wl_drop [_, _, _, _] [_] V
  exact ⟨h9, _, e9, V9, Ext.trans (Ext.trans (Ext.trans (Ext.trans (Ext.trans (Ext.trans E2 E3) E4) E5) E6) E7) E9, x7, ⟨k4, k7⟩, rfl, rfl, k4b.1, k4b.2, k7b.1, k7b.2⟩
theorem Pick_ok (b x n : Nat) (hn : n < 2 ^ 20) (h : AH) : FnM Try.prog (.func (.func 36) #[] ([] : List Value).toArray) [.pointer (some ⟨b, 0, none⟩), .int .i64 n] h [some (b, .cells #[.int .u64 (x : Int)] 95 (0, 0))]
    (fun v h' M' => ∃ (x' : Nat) (l : List Int), M' = [some (b, .cells #[.int .u64 (x' : Int)] 95 (0, 0))] ∧ SlR h' 1 intC l v ∧ (∀ z ∈ l, 0 ≤ z ∧ z < n) ∧ l.Pairwise (· < ·) ∧ l.length ≤ n) := by
  refine fnM_body rfl rfl Try.func36 rfl Try.ntmps36 rfl ?_
  refine goes_more ?_
  refine goes_norm [_, _] rfl ?_
  refine xp_seq ?_
  refine xp_region rfl ?_
  refine op_pure (pv_assign (v := .slice _ _ _) rfl) ?_
  refine xp_seq ?_
  refine xp_region rfl ?_
  refine op_pure (pv_assign (v := .slice _ _ _) rfl) ?_
  refine xp_seq ?_
  refine xp_seq ?_
  refine xp_region rfl ?_
  refine op_pure (pv_assign (v := .int .i64 _) rfl) ?_
  refine xp_block ?_
  refine xp_loopL [5, 6, 7, 8, 9, 10, 11, 12, 13, 14, 15, 16, 17] 2 (α := Nat × Nat × List Int × Acc) (fun ⟨i, y, l, a⟩ => [(6, .int .i64 i), (5, .slice a.A a.n a.c)]) (fun ⟨i, y, l, a⟩ L => (L.set 0 (some (b, .cells #[.int .u64 (y : Int)] 95 (0, 0)))).set 1 (a.p)) (fun ⟨i, y, l, a⟩ h_i => (i ≤ n ∧ l.length ≤ i) ∧ (∀ z ∈ l, 0 ≤ z ∧ z < i) ∧ l.Pairwise (· < ·) ∧ AccR 3 1 (l.flatMap intC) a) (fun ⟨i, y, l, a⟩ => n - i) ((0, x, [], acc0)) ⟨rfl, rfl, trivial⟩ (rfl) (⟨⟨Nat.zero_le _, Nat.le_refl _⟩, by simp, List.Pairwise.nil, accR0⟩) ?_
  rintro ⟨i, y, l, a⟩ T1 h_i E_i J_i
  refine goes_norm [_, _] rfl ?_
  obtain ⟨⟨K1, K2⟩, K3, K4, K5⟩ := J_i
  refine xp_seq ?_
  refine xp_seq ?_
  refine xp_region rfl ?_
  refine op_pure (pv_move (v := .int .i64 _) rfl) ?_
  refine op_pure (pv_move (v := .int .i64 _) rfl) ?_
  refine op_pure (pv_of (v := .bool _) rfl) ?_
  refine xp_cond rfl (fun ht => ?_) (fun ht => ?_)
  · skip
    have hin : i < n := ltI ht
    refine xp_skip ?_
    refine xp_seq ?_
    refine xp_block ?_
    refine xp_seq ?_
    refine xp_region rfl ?_
    refine op_pure (pv_move (v := .pointer (some ⟨b, 0, none⟩)) rfl) ?_
    refine op_fnMM [] [_] [_] (vs := [.pointer _, .int .i64 _, .int .i64 _]) rfl rfl rfl ((Odds_ok b y 1 2 (by omega) h_i)) ?_
    rintro _ g2 _ E2 ⟨y2, u, rfl, rfl⟩
    refine wp_norm [_, _] rfl ?_
    refine xp_cond rfl (fun hu => ?_) (fun hu => ?_)
    · skip
      refine xp_region rfl ?_
      refine op_pure (pv_move (v := .slice _ _ _) rfl) ?_
      refine op_pure (pv_move (v := .int .i64 _) rfl) ?_
      refine op_buildSlice (zc := [_]) (vs := [(0, .int .i64 _)]) (cs := [_]) rfl rfl rfl rfl rfl rfl rfl fun b16 hb16 => ?_
      refine wp_norm [_, _, _] rfl ?_
      refine op_appendR 1 K5 rfl rfl rfl (fun V => rdP V (i := 2) rfl) rfl rfl rfl rfl rfl rfl rfl rfl rfl (by omega) rfl (by rw [flat_len (m := 1) (fun _ _ => rfl)]; simp; omega) fun a2 h2a E2a ha2 => ?_
      refine wp_norm [_, _, _] rfl ?_
      refine op_pure (pv_assign (v := .slice _ _ _) rfl) ?_
      refine xp_region rfl ?_
      refine op_pure (pv_move (v := .int .i64 _) rfl) ?_
      refine op_pure (pv_arith rfl (by omega)) ?_
      refine op_pure (pv_assign (v := .int .i64 _) rfl) ?_
      refine ⟨(i + 1, y2, l ++ [(i : Int)], a2), ⟨rfl, rfl, trivial⟩, rfl, rfl, (Ext.trans (Ext.trans E_i E2) E2a), fun h3 E3 => ⟨⟨hin, by rw [List.length_append]; simp; omega⟩, fun z hz => (List.mem_append.1 hz).elim (fun h => by have := K3 z h; omega) (fun h => by rw [List.mem_singleton.1 h]; omega), List.pairwise_append.2 ⟨K4, by simp, fun z hz w hw => by rw [List.mem_singleton.1 hw]; exact (K3 z hz).2⟩, by rw [List.flatMap_append]; exact ha2⟩, by first | omega | (dsimp only; omega), ?_⟩
      repeat (first | exact off_base _ _ _ | refine off_upd (by decide) ?_ | refine off_updL rfl ?_ | refine off_mix rfl ?_)
    · skip
      refine xp_skip ?_
      refine xp_region rfl ?_
      refine op_pure (pv_move (v := .int .i64 _) rfl) ?_
      refine op_pure (pv_arith rfl (by omega)) ?_
      refine op_pure (pv_assign (v := .int .i64 _) rfl) ?_
      refine ⟨(i + 1, y2, l, a), ⟨rfl, rfl, trivial⟩, rfl, rfl, (Ext.trans E_i E2), fun h3 E3 => ⟨⟨hin, by omega⟩, fun z hz => by have := K3 z hz; omega, K4, K5⟩, by first | omega | (dsimp only; omega), ?_⟩
      repeat (first | exact off_base _ _ _ | refine off_upd (by decide) ?_ | refine off_updL rfl ?_ | refine off_mix rfl ?_)
  · skip
    have hie : i = n := by have := geI ht; omega
    subst hie
    obtain ⟨p7, A7, n7, c7⟩ := a
    obtain rfl : n7 = l.length := by have := AccR.len K5; rw [flat_len (m := 1) (fun _ _ => rfl)] at this; dsimp only at this; omega
    dsimp only
    refine goes_pubO 1 rfl ?_
    intro g7 G7 P7
    refine goes_norm [_, _] rfl ?_
    refine xp_exit ?_
    refine xp_seq ?_
    refine xp_region rfl ?_
    refine op_pure (pv_move (v := .slice _ _ _) rfl) ?_
    refine op_pure (pv_assign (v := .slice _ _ _) rfl) ?_
    refine xp_ret ?_
    refine res_list (vs := [_]) Try.results36 ⟨resV_tmp rfl rfl, trivial⟩ fun V => ?_
    obtain ⟨h9, E9, e9, V9⟩ := wl_drop [_] [_] V
    exact ⟨h9, _, e9, V9, Ext.trans (Ext.trans E_i G7) E9, y, l, rfl, ⟨A7, c7, rfl, Row.ext (⟨fun _ _ => rfl, AccR.rd K5 P7⟩ : Row g7 1 intC A7 l) E9⟩, K3, K4, K2⟩
/-- Whether a verdict is right. -/
def rightM (v : Int) (is : Bool) : Bool := decide (v = 3) || (decide (v = 1) && is) || (decide (v = 2) && !is)
theorem right_ok (v : Int) (is : Bool) (h : AH) : FnT Try.prog 69 #[.int .i64 v, .bool is] h (fun w _ => w = .bool (rightM v is)) := by
  refine call_body Try.func69 rfl Try.ntmps69 rfl ?_
  refine xp_seq ?_
  refine xp_region rfl ?_
  refine op_pure (pv_assign (v := .bool _) rfl) ?_
  refine xp_seq ?_
  refine xp_region rfl ?_
  refine op_pure (pv_move (v := .int .i64 _) rfl) ?_
  refine op_pure (pv_of (v := .bool _) rfl) ?_
  refine op_pure (pv_move (v := .bool _) rfl) ?_
  rcases Bool.eq_false_or_eq_true (decide (v = 3)) with e3 | e3
  · skip
    have e := of_decide_eq_true e3
    subst e
    refine guard_no rfl rfl ?_
    refine guard_no rfl rfl ?_
    refine guard_no rfl rfl ?_
    refine guard_un rfl ?_
    refine guard_no rfl rfl ?_
    refine op_pure (pv_pickT rfl rfl (v := .bool _) rfl) ?_
    refine op_pure (pv_move (v := .bool _) rfl) ?_
    refine guard_no rfl rfl ?_
    refine guard_no rfl rfl ?_
    refine guard_no rfl rfl ?_
    refine guard_un rfl ?_
    refine guard_un rfl ?_
    refine guard_no rfl rfl ?_
    refine op_pure (pv_pickT rfl rfl (v := .bool _) rfl) ?_
    refine op_pure (pv_assign (v := .bool _) rfl) ?_
    refine xp_ret ?_
    refine res_list (vs := [_]) Try.results69 ⟨resV_tmp rfl rfl, trivial⟩ fun V => ?_
    exact ⟨(ext_wl V), rfl⟩
  · skip
    rcases Bool.eq_false_or_eq_true (decide (v = 1)) with e1 | e1
    · skip
      have e := of_decide_eq_true e1
      subst e
      cases is
      · skip
        refine guard_yes rfl rfl ?_
        refine op_pure (pv_move (v := .int .i64 _) rfl) ?_
        refine guard_yes rfl rfl ?_
        refine op_pure (pv_of (v := .bool _) rfl) ?_
        refine guard_yes rfl rfl ?_
        refine op_pure (pv_move (v := .bool _) rfl) ?_
        refine guard_yes rfl rfl ?_
        refine op_pure (pv_move (v := .bool _) rfl) ?_
        refine guard_yes rfl rfl ?_
        refine op_pure (pv_pickT rfl rfl (v := .bool _) rfl) ?_
        refine op_pure (pv_pickF rfl rfl (v := .bool _) rfl) ?_
        refine op_pure (pv_move (v := .bool _) rfl) ?_
        refine guard_yes rfl rfl ?_
        refine op_pure (pv_move (v := .int .i64 _) rfl) ?_
        refine guard_yes rfl rfl ?_
        refine op_pure (pv_of (v := .bool _) rfl) ?_
        refine guard_yes rfl rfl ?_
        refine op_pure (pv_move (v := .bool _) rfl) ?_
        refine guard_no rfl rfl ?_
        refine guard_no rfl rfl ?_
        refine guard_yes rfl rfl ?_
        refine op_pure (pv_pickF rfl rfl (v := .bool _) rfl) ?_
        refine op_pure (pv_pickF rfl rfl (v := .bool _) rfl) ?_
        refine op_pure (pv_assign (v := .bool _) rfl) ?_
        refine xp_ret ?_
        refine res_list (vs := [_]) Try.results69 ⟨resV_tmp rfl rfl, trivial⟩ fun V => ?_
        exact ⟨(ext_wl V), rfl⟩
      · skip
        refine guard_yes rfl rfl ?_
        refine op_pure (pv_move (v := .int .i64 _) rfl) ?_
        refine guard_yes rfl rfl ?_
        refine op_pure (pv_of (v := .bool _) rfl) ?_
        refine guard_yes rfl rfl ?_
        refine op_pure (pv_move (v := .bool _) rfl) ?_
        refine guard_yes rfl rfl ?_
        refine op_pure (pv_move (v := .bool _) rfl) ?_
        refine guard_yes rfl rfl ?_
        refine op_pure (pv_pickT rfl rfl (v := .bool _) rfl) ?_
        refine op_pure (pv_pickF rfl rfl (v := .bool _) rfl) ?_
        refine op_pure (pv_move (v := .bool _) rfl) ?_
        refine guard_no rfl rfl ?_
        refine guard_no rfl rfl ?_
        refine guard_no rfl rfl ?_
        refine guard_un rfl ?_
        refine guard_un rfl ?_
        refine guard_no rfl rfl ?_
        refine op_pure (pv_pickT rfl rfl (v := .bool _) rfl) ?_
        refine op_pure (pv_assign (v := .bool _) rfl) ?_
        refine xp_ret ?_
        refine res_list (vs := [_]) Try.results69 ⟨resV_tmp rfl rfl, trivial⟩ fun V => ?_
        exact ⟨(ext_wl V), rfl⟩
    · skip
      rcases Bool.eq_false_or_eq_true (decide (v = 2)) with e2 | e2
      · skip
        have e := of_decide_eq_true e2
        subst e
        refine guard_yes rfl e3 ?_
        refine op_pure (pv_move (v := .int .i64 _) rfl) ?_
        refine guard_yes rfl e3 ?_
        refine op_pure (pv_of (v := .bool _) rfl) ?_
        refine guard_yes rfl e3 ?_
        refine op_pure (pv_move (v := .bool _) rfl) ?_
        refine guard_no rfl e1 ?_
        refine guard_yes rfl e3 ?_
        refine op_pure (pv_pickF rfl e1 (v := .bool _) rfl) ?_
        refine op_pure (pv_pickF rfl e3 (v := .bool _) rfl) ?_
        refine op_pure (pv_move (v := .bool _) rfl) ?_
        refine guard_yes rfl rfl ?_
        refine op_pure (pv_move (v := .int .i64 _) rfl) ?_
        refine guard_yes rfl rfl ?_
        refine op_pure (pv_of (v := .bool _) rfl) ?_
        refine guard_yes rfl rfl ?_
        refine op_pure (pv_move (v := .bool _) rfl) ?_
        refine guard_yes rfl rfl ?_
        refine op_pure (pv_move (v := .bool _) rfl) ?_
        refine guard_yes rfl rfl ?_
        refine op_pure (pv_of (v := .bool _) rfl) ?_
        refine guard_yes rfl rfl ?_
        refine op_pure (pv_pickT rfl rfl (v := .bool _) rfl) ?_
        refine op_pure (pv_pickF rfl rfl (v := .bool _) rfl) ?_
        refine op_pure (pv_assign (v := .bool _) rfl) ?_
        refine xp_ret ?_
        refine res_list (vs := [_]) Try.results69 ⟨resV_tmp rfl rfl, trivial⟩ fun V => ?_
        exact ⟨(ext_wl V), by cases is <;> rfl⟩
      · skip
        refine guard_yes rfl e3 ?_
        refine op_pure (pv_move (v := .int .i64 _) rfl) ?_
        refine guard_yes rfl e3 ?_
        refine op_pure (pv_of (v := .bool _) rfl) ?_
        refine guard_yes rfl e3 ?_
        refine op_pure (pv_move (v := .bool _) rfl) ?_
        refine guard_no rfl e1 ?_
        refine guard_yes rfl e3 ?_
        refine op_pure (pv_pickF rfl e1 (v := .bool _) rfl) ?_
        refine op_pure (pv_pickF rfl e3 (v := .bool _) rfl) ?_
        refine op_pure (pv_move (v := .bool _) rfl) ?_
        refine guard_yes rfl rfl ?_
        refine op_pure (pv_move (v := .int .i64 _) rfl) ?_
        refine guard_yes rfl rfl ?_
        refine op_pure (pv_of (v := .bool _) rfl) ?_
        refine guard_yes rfl rfl ?_
        refine op_pure (pv_move (v := .bool _) rfl) ?_
        refine guard_no rfl e2 ?_
        refine guard_no rfl e2 ?_
        refine guard_yes rfl rfl ?_
        refine op_pure (pv_pickF rfl e2 (v := .bool _) rfl) ?_
        refine op_pure (pv_pickF rfl rfl (v := .bool _) rfl) ?_
        refine op_pure (pv_assign (v := .bool _) rfl) ?_
        refine xp_ret ?_
        refine res_list (vs := [_]) Try.results69 ⟨resV_tmp rfl rfl, trivial⟩ fun V => ?_
        exact ⟨(ext_wl V), by rw [rightM, e1, e2, e3]; rfl⟩
end Go.Proofs.Ytndfkbapoinmkaa
/- Plain: all reports left out. Conditions: as each theorem states. -/
namespace Go.Wx
open Go Go.HL
theorem keepN_none {l : List Int} : ∀ (a : List Seen) (i : Nat), (∀ k, k < a.length → ((i + k : Nat) : Int) ∈ l) → keepN l i a = []
  | [], i, _ => rfl
  | r :: a, i, h => by
    rw [keepN, if_pos (by have := h 0 (by simp); simpa using this)]
    exact keepN_none a (i + 1) fun k hk => by have := h (k + 1) (by simpa using hk); rwa [show i + 1 + k = i + (k + 1) from by omega]
theorem without_full (s : Season) : withoutS s ((List.range' 0 s.reports.length).map fun i : Nat => (i : Int)) = { s with reports := [] } := by
  unfold withoutS
  rw [keepN_none]
  intro k hk
  exact List.mem_map.2 ⟨k, by rw [List.mem_range'_1]; omega, by simp⟩
theorem wrong_some {s : Season} (c : CheckS s) : ∃ x, fewestP s.reports.length (fun l => mayM (withoutS s l)) (s.reports.length + 1) = some x := by
  have hp : mayM (withoutS s ((List.range' 0 s.reports.length).map fun i : Nat => (i : Int))) = true := may_bare (c.without _) (by rw [without_full])
  obtain ⟨y, e, _⟩ := fewestP_le (p := fun l => mayM (withoutS s l)) (full_mem s.reports.length s.reports.length 0 (by omega)) hp (Nat.lt_succ_self _)
  exact ⟨y, e⟩
theorem CheckS.reports {s : Season} (c : CheckS s) {rs : List Seen} (h5 : rs.length ≤ 5) (h : ∀ r ∈ rs, checkSeenM s r = 0) : CheckS { s with reports := rs } :=
  ⟨c.w1, c.w6, c.dl, c.h, c.d, c.j3, c.j, h5, fun r hr => checkSeen_iff.2 (checkSeen_iff.1 (h r hr))⟩
theorem weather_without {s : Season} (c : CheckS s) (l : List Int) : weatherE (withoutS s l) 1 = if mayM (withoutS s l) then 0 else 9 := by
  unfold weatherE knownM
  rw [(c.without l).ok, if_neg (by simp)]
  rfl
end Go.Wx
/- Walks: a season without some reports (the reference). Conditions: as each theorem states. -/
namespace Go.Proofs.Ytndfkbapoinmkaa
open Go Go.HL Go.Proofs Go.Wx
set_option maxRecDepth 100000
theorem takeMem {l : List Int} {k : Nat} {z : Int} (h : k < l.length) : decide (z ∈ l.take (k + 1)) = (decide (z ∈ l.take k) || decide (l[k] = z)) := by
  rw [take_snoc h, Bool.eq_iff_iff]
  simp only [decide_eq_true_eq, Bool.or_eq_true, List.mem_append, List.mem_singleton]
  exact ⟨fun h => h.imp id Eq.symm, fun h => h.imp id Eq.symm⟩
set_option maxHeartbeats 1000000 in
theorem Without_ok (s : Season) (hr : s.reports.length < 2 ^ 19) (l : List Int) (hl : l.length < 2 ^ 20) (B : Option Addr) (cB : Nat) (A0 A1 A2 A3 : Option Addr) (c0 c1 c2 c3 : Nat) (h : AH) (R : SeasonR h A0 A1 A2 A3 s) (RB : Row h 1 intC B l) :
    FnT Try.prog 68 #[seasonV A0 A1 A2 A3 c0 c1 c2 c3 s, .slice B l.length cB] h (fun v h' => SeasonS h' (withoutS s l) v) := by
  refine call_body Try.func68 rfl Try.ntmps68 rfl ?_
  refine goes_more ?_
  refine goes_norm [_] rfl ?_
  refine xp_seq ?_
  refine xp_region rfl ?_
  refine op_box (v := .agg #[.slice _ _ _, .slice _ _ _, .slice _ _ _, .slice _ _ _]) (cs := [_, _, _, _]) rfl rfl fun b2 hb2 => ?_
  refine wp_norm [_, _] rfl ?_
  refine op_alloc (cs := [_, _, _, _]) rfl rfl fun b4 hb4 => ?_
  refine wp_norm [_, _, _] rfl ?_
  refine xp_seq ?_
  refine xp_region rfl ?_
  refine op_pure (pv_fieldAddr rfl rfl rfl rfl 3 rfl) ?_
  refine op_loadP 1 (v := .slice _ _ _) rfl rfl rfl rfl ?_
  refine op_pure (pv_assign (v := .slice _ _ _) rfl) ?_
  refine xp_seq ?_
  refine xp_region rfl ?_
  refine op_pure (pv_fieldAddr rfl rfl rfl rfl 3 rfl) ?_
  refine op_storeP 1 (v := .slice _ _ _) (vs := [_]) (c' := [_, _, _, _]) rfl rfl rfl rfl rfl rfl rfl rfl rfl ?_
  refine wp_norm [_, _, _] rfl ?_
  refine xp_seq ?_
  refine xp_seq ?_
  refine xp_region rfl ?_
  refine op_pure (pv_assign (v := .int .i64 _) rfl) ?_
  refine xp_block ?_
  refine xp_loopL [6, 7, 8, 12, 13, 14, 15, 16, 17, 18, 19, 20, 21, 22, 23, 24, 25, 26, 27, 28, 29, 30, 31, 32, 33, 34, 35, 36, 37, 38, 39, 40, 41, 42] 3 (α := Nat × Acc) (fun ⟨i, a⟩ => [(6, .int .i64 i)]) (fun ⟨i, a⟩ L => (L.set 1 (some (b2, .cells #[.slice A0 s.heats.length c0, .slice A1 s.damps.length c1, .slice A2 s.joints.length c2, .slice a.A a.n a.c] 26 (0, 0)))).set 0 (a.p)) (fun ⟨i, a⟩ h_i => i ≤ s.reports.length ∧ AccR 56 3 ((keepN l 0 (s.reports.take i)).flatMap seenC) a) (fun ⟨i, a⟩ => s.reports.length - i) ((0, acc0)) ⟨rfl, trivial⟩ (rfl) (⟨Nat.zero_le _, accR0⟩) ?_
  rintro ⟨i, a⟩ T1 h_i E_i J_i
  refine goes_norm [_, _, _] rfl ?_
  obtain ⟨K1, K2⟩ := J_i
  refine xp_seq ?_
  refine xp_seq ?_
  refine xp_region rfl ?_
  refine op_pure (pv_move (v := .int .i64 _) rfl) ?_
  refine op_pure (pv_move (v := .slice _ _ _) rfl) ?_
  refine op_pure (pv_len rfl rfl) ?_
  refine op_pure (pv_of (v := .bool _) rfl) ?_
  refine xp_cond rfl (fun hi => ?_) (fun hi => ?_)
  · skip
    have hil : i < s.reports.length := ltI hi
    have hsn : keepN l 0 (s.reports.take (i + 1)) = keepN l 0 (s.reports.take i) ++ if ((i : Nat) : Int) ∈ l then [] else [s.reports[i]] := by
      rw [take_snoc hil, keepN_snoc, List.length_take, Nat.min_eq_left (by omega), Nat.zero_add]
    refine xp_skip ?_
    refine xp_seq ?_
    refine xp_block ?_
    refine xp_seq ?_
    refine xp_region rfl ?_
    refine op_pure (pv_assign (v := .bool _) rfl) ?_
    refine xp_seq ?_
    refine xp_seq ?_
    refine xp_region rfl ?_
    refine op_pure (pv_assign (v := .int .i64 _) rfl) ?_
    refine xp_block ?_
    refine xp_loopB [7, 8, 18, 19, 20, 21, 22, 23, 24, 25, 26, 27, 28, 29, 30, 31, 32] 3 (α := Nat) (fun k => [(7, .bool (!decide ((i : Int) ∈ l.take k))), (8, .int .i64 k)]) (fun k => _) (fun k h_k => k ≤ l.length) (fun k => l.length - k) (0) ⟨rfl, rfl, trivial⟩ (rfl) (Nat.zero_le _) ?_
    rintro k T2 h_k E_k J_k
    refine goes_norm [_, _, _] rfl ?_
    refine xp_seq ?_
    refine xp_seq ?_
    refine xp_region rfl ?_
    refine op_pure (pv_move (v := .int .i64 _) rfl) ?_
    refine op_pure (pv_move (v := .slice _ _ _) rfl) ?_
    refine op_pure (pv_len rfl rfl) ?_
    refine op_pure (pv_of (v := .bool _) rfl) ?_
    refine xp_cond rfl (fun hk => ?_) (fun hk => ?_)
    · skip
      have hkl : k < l.length := ltI hk
      obtain ⟨g, off, hB, hc⟩ := (RB.ext (Ext.trans E_i E_k)).at (by omega) hkl
      have hne : decide (l[k] = (i : Int)) = (l[k] == (i : Int)) := rfl
      rcases Bool.eq_false_or_eq_true (!decide ((i : Int) ∈ l.take k)) with e | e
      · skip
        refine xp_skip ?_
        refine xp_seq ?_
        refine xp_block ?_
        refine xp_region rfl ?_
        refine op_pure (pv_move (v := .bool _) rfl) ?_
        refine op_pure (pv_move (v := .bool _) rfl) ?_
        refine guard_yes rfl e ?_
        refine op_pure (pv_move (v := .slice _ _ _) rfl) ?_
        refine guard_yes rfl e ?_
        refine op_pure (pv_move (v := .int .i64 _) rfl) ?_
        refine guard_yes rfl e ?_
        refine op_pure (pv_indexE rfl hB rfl rfl rfl (by omega) (by omega)) ?_
        refine guard_yes rfl e ?_
        refine op_load (v := .int .i64 _) rfl rfl ((hc) 0 _ rfl) ?_
        refine guard_yes rfl e ?_
        refine op_pure (pv_move (v := .int .i64 _) rfl) ?_
        refine guard_yes rfl e ?_
        refine op_pure (pv_of (v := .bool _) rfl) ?_
        refine op_pure (pv_pickT rfl e (v := .bool _) rfl) ?_
        refine op_pure (pv_assign (v := .bool _) rfl) ?_
        refine xp_region rfl ?_
        refine op_pure (pv_move (v := .int .i64 _) rfl) ?_
        refine op_pure (pv_arith rfl (by omega)) ?_
        refine op_pure (pv_assign (v := .int .i64 _) rfl) ?_
        refine ⟨k + 1, ⟨(by rw [takeMem hkl, Bool.not_or, e]; rfl), rfl, trivial⟩, rfl, rfl, E_k, fun h3 E3 => hkl, by first | omega | (dsimp only; omega), ?_⟩
        repeat (first | exact off_base _ _ _ | refine off_upd (by decide) ?_ | refine off_updL rfl ?_ | refine off_mix rfl ?_)
      · skip
        refine xp_skip ?_
        refine xp_seq ?_
        refine xp_block ?_
        refine xp_region rfl ?_
        refine op_pure (pv_move (v := .bool _) rfl) ?_
        refine op_pure (pv_move (v := .bool _) rfl) ?_
        refine guard_no rfl e ?_
        refine guard_no rfl e ?_
        refine guard_no rfl e ?_
        refine guard_no rfl e ?_
        refine guard_no rfl e ?_
        refine guard_no rfl e ?_
        refine op_pure (pv_pickF rfl e (v := .bool _) rfl) ?_
        refine op_pure (pv_assign (v := .bool _) rfl) ?_
        refine xp_region rfl ?_
        refine op_pure (pv_move (v := .int .i64 _) rfl) ?_
        refine op_pure (pv_arith rfl (by omega)) ?_
        refine op_pure (pv_assign (v := .int .i64 _) rfl) ?_
        refine ⟨k + 1, ⟨(by rw [takeMem hkl, Bool.not_or, e]; rfl), rfl, trivial⟩, rfl, rfl, E_k, fun h3 E3 => hkl, by first | omega | (dsimp only; omega), ?_⟩
        repeat (first | exact off_base _ _ _ | refine off_upd (by decide) ?_ | refine off_updL rfl ?_ | refine off_mix rfl ?_)
    · skip
      have hke : k = l.length := by have := geI hk; omega
      subst hke
      rw [List.take_length]
      refine xp_exit ?_
      refine xp_seq ?_
      refine xp_region rfl ?_
      refine op_pure (pv_move (v := .bool _) rfl) ?_
      refine xp_cond rfl (fun hin => ?_) (fun hin => ?_)
      · skip
        have hin' : ¬ ((i : Nat) : Int) ∈ l := by simpa using hin
        obtain ⟨g, off, hA, hcs⟩ := (R.reports.ext (Ext.trans E_i E_k)).at (by omega) hil
        refine xp_dw [false, false, true] rfl rfl rfl ?_
        refine dw_pure (i := 0) rfl (by decide +kernel) (pv_fieldAddr rfl rfl rfl rfl 3 rfl) ?_
        refine dw_load (i := 1) rfl (by decide +kernel) ?_
        refine op_loadP 1 (v := .slice _ _ _) rfl rfl rfl rfl ?_
        refine dw_pure (i := 2) rfl (by decide +kernel) (pv_move (v := .slice _ _ _) rfl) ?_
        refine dw_pure (i := 3) rfl (by decide +kernel) (pv_move (v := .int .i64 _) rfl) ?_
        refine dw_pure (i := 4) rfl (by decide +kernel) (pv_indexE rfl hA rfl rfl rfl (by omega) (by omega)) ?_
        refine dw_load (i := 5) rfl (by decide +kernel) ?_
        refine op_loadA rfl rfl rfl rfl (hcs) ?_
        refine dw_eff (i := 6) rfl (by decide +kernel) ?_
        refine op_buildSlice (zc := [_, _, _]) (vs := [(0, .agg #[.int .i64 _, .int .i64 _, .bool _])]) (cs := [_, _, _]) rfl rfl rfl rfl rfl rfl rfl fun b40 hb40 => ?_
        refine ⟨ext_newM hb40 _, ?_⟩
        refine dw_norm [_, _, _, _] rfl ?_
        -- L = aR b2 b4 b40
        refine dw_last (i := 7) rfl (by decide +kernel) (by decide +kernel) ?_
        refine op_appendR 0 K2 rfl rfl rfl (fun V => rdP V (i := 3) rfl) rfl rfl rfl rfl rfl rfl rfl rfl rfl (by omega) rfl (by rw [flat_len (m := 3) (fun _ _ => rfl)]; have := keepN_len l (s.reports.take i) 0; simp at this ⊢; omega) fun a2 h3a E3a ha2 => ?_
        refine dw_norm [_, _, _, _] rfl ?_
        refine dw_pure (i := 8) rfl (by decide +kernel) (pv_fieldAddr rfl rfl rfl rfl 3 rfl) ?_
        refine dw_last (i := 9) rfl (by decide +kernel) (by decide +kernel) ?_
        refine op_storeP 1 (v := .slice _ _ _) (vs := [_]) (c' := [_, _, _, _]) rfl rfl rfl rfl rfl rfl rfl rfl rfl ?_
        refine dw_norm [_, _, _, _] rfl ?_
        refine dw_end rfl ?_
        refine xp_region rfl ?_
        refine op_pure (pv_move (v := .int .i64 _) rfl) ?_
        refine op_pure (pv_arith rfl (by omega)) ?_
        refine op_pure (pv_assign (v := .int .i64 _) rfl) ?_
        refine ⟨(i + 1, a2), ⟨rfl, trivial⟩, rfl, rfl, (Ext.trans (Ext.trans E_i E_k) E3a), fun h3 E3 => ⟨hil, by rw [hsn, if_neg hin', List.flatMap_append]; exact ha2⟩, by first | omega | (dsimp only; omega), ?_⟩
        repeat (first | exact off_base _ _ _ | refine off_upd (by decide) ?_ | refine off_updL rfl ?_ | refine off_mix rfl ?_)
      · skip
        have hin' : ((i : Nat) : Int) ∈ l := by simpa using hin
        refine xp_skip ?_
        refine xp_region rfl ?_
        refine op_pure (pv_move (v := .int .i64 _) rfl) ?_
        refine op_pure (pv_arith rfl (by omega)) ?_
        refine op_pure (pv_assign (v := .int .i64 _) rfl) ?_
        refine ⟨(i + 1, a), ⟨rfl, trivial⟩, rfl, rfl, (Ext.trans E_i E_k), fun h3 E3 => ⟨hil, by rw [hsn, if_pos hin', List.append_nil]; exact K2⟩, by first | omega | (dsimp only; omega), ?_⟩
        repeat (first | exact off_base _ _ _ | refine off_upd (by decide) ?_ | refine off_updL rfl ?_ | refine off_mix rfl ?_)
  · skip
    have hie : i = s.reports.length := by have := geI hi; omega
    subst hie
    rw [List.take_length] at K2
    obtain ⟨p7, A7, n7, c7⟩ := a
    obtain rfl : n7 = (withoutS s l).reports.length := by have := AccR.len K2; rw [flat_len (m := 3) (fun _ _ => rfl)] at this; simp [withoutS] at this ⊢; omega
    dsimp only
    refine goes_pubO 0 rfl ?_
    intro g7 G7 P7
    refine goes_norm [_, _, _] rfl ?_
    have RW : SeasonR g7 A0 A1 A2 A7 (withoutS s l) := ⟨R.heats.ext (Ext.trans E_i G7), R.damps.ext (Ext.trans E_i G7), R.joints.ext (Ext.trans E_i G7), ⟨fun _ _ => rfl, AccR.rd K2 P7⟩⟩
    refine xp_exit ?_
    refine xp_seq ?_
    refine xp_region rfl ?_
    refine op_loadPA 1 (vs := [.slice _ _ _, .slice _ _ _, .slice _ _ _, .slice _ _ _]) rfl rfl rfl rfl rfl ?_
    refine op_storeP 2 (v := .agg #[.slice _ _ _, .slice _ _ _, .slice _ _ _, .slice _ _ _]) (vs := [_, _, _, _]) (c' := [_, _, _, _]) rfl rfl rfl rfl rfl rfl rfl rfl rfl ?_
    refine wp_norm [_, _, _] rfl ?_
    refine xp_ret ?_
    refine res_list (vs := [_]) Try.results68 ⟨resV_agg 2 rfl rfl rfl rfl rfl (vs := [.slice _ _ _, .slice _ _ _, .slice _ _ _, .slice _ _ _]) rfl, trivial⟩ fun V => ?_
    exact ⟨(Ext.trans (Ext.trans E_i G7) (ext_wl V)), A0, A1, A2, A7, c0, c1, c2, c7, rfl, RW.ext (ext_wl V)⟩
end Go.Proofs.Ytndfkbapoinmkaa
/- Plain: what truly was so is never denied. Conditions: as each theorem states. -/
namespace Go.Wx
open Go Go.HL
theorem mem_le_last {m : Nat} {z : Int} (h : z ∈ listM m) : z ≤ (listM m).getLastD 0 := by
  obtain ⟨i, rfl, hi, hb⟩ := listN_mem h
  have h1 := last_le (m := m) (m' := 2 ^ i) (fun w' hw' hb' => by
    rw [Nat.testBit_two_pow] at hb'
    have : i = w' := by simpa using hb'
    subst this
    exact ⟨i, Nat.le_refl _, hi, hb⟩)
  have h2 : listM (2 ^ i) ≠ [] := List.ne_nil_of_mem (mem_listN.2 ⟨i, rfl, hi, by rw [Nat.testBit_two_pow]; simp⟩)
  have h3 := h1 h2
  have h4 : (listM (2 ^ i)).getLastD 0 = (i : Int) := by
    have hl : (listM (2 ^ i)).getLastD 0 ∈ listM (2 ^ i) := by
      rw [List.getLastD_eq_getLast?, List.getLast?_eq_some_getLast h2]
      exact List.getLast_mem h2
    obtain ⟨k, e, _, hk⟩ := listN_mem hl
    rw [Nat.testBit_two_pow] at hk
    have : i = k := by simpa using hk
    rw [e, this]
  omega
theorem head_le_mem {m : Nat} {z : Int} (h : z ∈ listM m) : (listM m).headD 0 ≤ z := by
  have hp : (listM m).Pairwise (· < ·) := listN_pair m 7
  cases e : listM m with
  | nil => rw [e] at h; cases h
  | cons y l =>
    rw [e] at h hp
    rw [List.headD_cons]
    rcases List.mem_cons.1 h with rfl | h
    · exact Int.le_refl _
    · have := (List.pairwise_cons.1 hp).1 _ h; omega
section
variable {weeks joints reports : Nat} {s : Season} {ht dt fs : List Int} (T : SeasonT weeks joints reports s ht dt fs) (hw : weeks ≤ 6) (h3 : joints ≤ 3)
include T hw h3
/-- The true weeks are a fate that there can be. -/
theorem true_fate : ∃ F, F ∈ allFates s ∧ ∀ i, i < s.joints.length → ∃ f : Nat, fs[i]? = some (f : Int) ∧ f ≤ s.heats.length ∧ (F.at i).testBit f = true := by
  refine ⟨joinF (fateOf s 1 (skyOf ht)) (fateOf s 2 (skyOf dt)), mem_allFates.2 ⟨_, mem_fatesM.2 ⟨_, ?_, ?_, rfl⟩, _, mem_fatesM.2 ⟨_, ?_, ?_, rfl⟩, rfl⟩, fun i hi => ?_⟩
  · have := true_sky T hw 1; rwa [if_pos rfl] at this
  · have := true_ok T hw (n := 1) (.inl rfl); rwa [if_pos rfl] at this
  · have := true_sky T hw 2; rwa [if_neg (by decide)] at this
  · have := true_ok T hw (n := 2) (.inr rfl); rwa [if_neg (by decide)] at this
  · have hj : s.joints[i]? = some s.joints[i] := List.getElem?_eq_getElem hi
    have hl' : i < fs.length := by rw [T.js.len]; exact hi
    have hf : fs[i]? = some fs[i] := List.getElem?_eq_getElem hl'
    have hk := kind_T T hw hj
    obtain ⟨y, hy, e⟩ := true_surv T hw hk hj rfl hf
    have hi3 : i < 3 := by have := T.jl; omega
    refine ⟨y.week, by rw [hf, e], surv_week hy, ?_⟩
    rw [joinF_at, Fate.of_at _ _ _ _ hi3, Fate.of_at _ _ _ _ hi3, Nat.testBit_or, Bool.or_eq_true]
    unfold fateM
    rcases hk with hk | hk
    · left
      rw [hk, if_pos rfl] at hy
      exact (maskM_bit _ _).2 ⟨y, hy, rfl⟩
    · right
      rw [hk, if_neg (by decide)] at hy
      exact (maskM_bit _ _).2 ⟨y, hy, rfl⟩
end
/-- How many joints truly are sound. -/
def soundT (fs : List Int) (w : Int) : Nat → Nat
  | 0 => 0
  | k + 1 => soundT fs w k + if fs.getD k 0 > w then 1 else 0
theorem soundT_le (fs : List Int) (w : Int) : ∀ k, soundT fs w k ≤ k
  | 0 => Nat.le_refl _
  | k + 1 => by have := soundT_le fs w k; rw [soundT]; split <;> omega
theorem upto_some {m w f : Nat} (hb : m.testBit f = true) (h : f ≤ w) : uptoM m w ≠ 0 := by
  intro e
  have := uptoM_bit m w f
  rw [e, hb] at this
  simp at this
  omega
theorem upto_less {m w f : Nat} (hb : m.testBit f = true) (h : w < f) : m ≠ uptoM m w := by
  intro e
  have := uptoM_bit m w f
  rw [← e, hb] at this
  simp at this
  omega
theorem sound_between {fs : List Int} {F : Fate} {w : Nat} : ∀ n, (∀ i, i < n → ∃ f : Nat, fs[i]? = some (f : Int) ∧ (F.at i).testBit f = true) → mustN F w n ≤ soundT fs w n ∧ soundT fs w n ≤ canN F w n
  | 0, _ => ⟨Nat.le_refl _, Nat.le_refl _⟩
  | n + 1, h => by
    obtain ⟨h1, h2⟩ := sound_between (w := w) n fun i hi => h i (by omega)
    obtain ⟨f, e, hb⟩ := h n (by omega)
    have hg : fs.getD n 0 = (f : Int) := by rw [List.getD_eq_getElem?_getD, e]; rfl
    rw [mustN, canN, soundT, hg]
    by_cases hf : w < f
    · rw [if_pos (by omega : (f : Int) > w), if_pos (upto_less hb hf)]
      constructor
      · split <;> omega
      · omega
    · rw [if_neg (by omega : ¬ (f : Int) > w), if_neg (upto_some hb (by omega))]
      constructor
      · omega
      · split <;> omega
theorem foldl_minI (g : Sky → Int) : ∀ (l : List Sky) (m : Int), l.foldl (fun m x => min m (g x)) m ≤ m ∧ ∀ x ∈ l, l.foldl (fun m x => min m (g x)) m ≤ g x
  | [], m => ⟨Int.le_refl _, fun _ h => (by cases h)⟩
  | y :: l, m => by
    obtain ⟨h1, h2⟩ := foldl_minI g l (min m (g y))
    rw [List.foldl_cons]
    refine ⟨by omega, fun x hx => ?_⟩
    rcases List.mem_cons.1 hx with rfl | hx
    · omega
    · exact h2 x hx
theorem foldl_maxI (g : Sky → Int) : ∀ (l : List Sky) (m : Int), m ≤ l.foldl (fun m x => max m (g x)) m ∧ ∀ x ∈ l, g x ≤ l.foldl (fun m x => max m (g x)) m
  | [], m => ⟨Int.le_refl _, fun _ h => (by cases h)⟩
  | y :: l, m => by
    obtain ⟨h1, h2⟩ := foldl_maxI g l (max m (g y))
    rw [List.foldl_cons]
    refine ⟨by omega, fun x hx => ?_⟩
    rcases List.mem_cons.1 hx with rfl | hx
    · omega
    · exact h2 x hx
theorem weekR_has {l : List Sky} {x : Sky} (h : x ∈ l) (w : Nat) : (weekR l w).mn ≤ x.at w ∧ x.at w ≤ (weekR l w).mx := by
  unfold weekR loK hiK
  rw [List.take_length]
  exact ⟨(foldl_minI _ l _).2 x h, (foldl_maxI _ l _).2 x h⟩
/-- Whether a joint truly is the first one to fail. -/
def isT (fs : List Int) (H : Int) (j : Nat) : Nat → Bool
  | 0 => decide (fs.getD j 0 ≤ H - 1)
  | k + 1 => isT fs H j k && decide (fs.getD k 0 ≥ fs.getD j 0)
theorem isT_yes {fs : List Int} {H : Int} {j : Nat} : ∀ {n}, isT fs H j n = true → fs.getD j 0 ≤ H - 1 ∧ ∀ k, k < n → fs.getD k 0 ≥ fs.getD j 0
  | 0, h => ⟨by simpa [isT] using h, fun k hk => absurd hk (Nat.not_lt_zero k)⟩
  | n + 1, h => by
    rw [isT, Bool.and_eq_true, decide_eq_true_eq] at h
    obtain ⟨h1, h2⟩ := isT_yes h.1
    refine ⟨h1, fun k hk => ?_⟩
    by_cases e : k = n
    · subst e; exact h.2
    · exact h2 k (by omega)
theorem isT_no {fs : List Int} {H : Int} {j : Nat} : ∀ {n}, isT fs H j n = false → fs.getD j 0 > H - 1 ∨ ∃ k, k < n ∧ fs.getD k 0 < fs.getD j 0
  | 0, h => by left; simp only [isT, decide_eq_false_iff_not] at h; omega
  | n + 1, h => by
    rw [isT, Bool.and_eq_false_iff] at h
    rcases h with h | h
    · rcases isT_no h with h | ⟨k, h1, h2⟩
      · exact .inl h
      · exact .inr ⟨k, by omega, h2⟩
    · rw [decide_eq_false_iff_not] at h
      exact .inr ⟨n, by omega, by omega⟩
theorem latP_ge {s : Season} {F : Fate} {j : Nat} {z : Int} (hz : z ≤ s.heats.length) : ∀ n, (∀ i, i < n → i ≠ j → z ≤ (listM (F.at i)).getLastD 0) → z ≤ latP s F j n
  | 0, _ => hz
  | n + 1, h => by
    have ih := latP_ge hz n fun i hi hij => h i (by omega) hij
    rw [latP]
    split
    · exact ih
    · rename_i hn
      have := h n (by omega) hn
      omega
theorem soonP_le {s : Season} {F : Fate} {j : Nat} : ∀ n i, i < n → i ≠ j → soonP s F j n ≤ (listM (F.at i)).headD 0
  | 0, i, h, _ => absurd h (Nat.not_lt_zero i)
  | n + 1, i, h, hij => by
    rw [soonP]
    by_cases e : i = n
    · subst e
      rw [if_neg hij]
      omega
    · have := soonP_le (s := s) (F := F) (j := j) n i (by omega) hij
      split
      · exact this
      · omega
theorem first_true {s : Season} (h6 : s.heats.length ≤ 6) {fs : List Int} {F : Fate} (hF : F ∈ allFates s) (h : ∀ i, i < s.joints.length → ∃ f : Nat, fs[i]? = some (f : Int) ∧ f ≤ s.heats.length ∧ (F.at i).testBit f = true) {j : Nat} (hj : j < s.joints.length) :
    (isT fs s.heats.length j s.joints.length = true → (allFates s).any (isF s j) = true) ∧ (isT fs s.heats.length j s.joints.length = false → (allFates s).any (noF s j) = true) := by
  have val : ∀ i, i < s.joints.length → fs.getD i 0 ∈ listM (F.at i) ∧ 0 ≤ fs.getD i 0 ∧ fs.getD i 0 ≤ s.heats.length := by
    intro i hi
    obtain ⟨f, e, hf, hb⟩ := h i hi
    have hg : fs.getD i 0 = (f : Int) := by rw [List.getD_eq_getElem?_getD, e]; rfl
    rw [hg]
    exact ⟨mem_listN.2 ⟨f, rfl, by omega, hb⟩, by omega, by omega⟩
  obtain ⟨v1, v2, v3⟩ := val j hj
  constructor
  · intro ht
    obtain ⟨a1, a2⟩ := isT_yes ht
    rw [List.any_eq_true]
    refine ⟨F, hF, ?_⟩
    unfold isF
    rw [List.any_eq_true]
    refine ⟨_, v1, ?_⟩
    unfold isW
    rw [Bool.and_eq_true, decide_eq_true_eq, decide_eq_true_eq]
    refine ⟨a1, latP_ge v3 _ fun i hi _ => ?_⟩
    have := a2 i hi
    have := mem_le_last (val i hi).1
    omega
  · intro ht
    rw [List.any_eq_true]
    refine ⟨F, hF, ?_⟩
    unfold noF
    rw [List.any_eq_true]
    refine ⟨_, v1, ?_⟩
    unfold noW
    rw [Bool.or_eq_true, decide_eq_true_eq, decide_eq_true_eq]
    rcases isT_no ht with a | ⟨k, hk, a⟩
    · exact .inl a
    · right
      have hkj : k ≠ j := fun e => by subst e; omega
      have h1 := soonP_le (s := s) (F := F) (j := j) s.joints.length k hk hkj
      have h2 := head_le_mem (val k hk).1
      omega
theorem lookAt_low {d : Int} : ∀ (l : List Int) (e : Int), (∀ i ∈ l, e ≤ i) → lookAt e d l = e
  | [], e, _ => rfl
  | i :: l, e, h => by
    rw [show lookAt e d (i :: l) = lookAt (if d ≤ i then min e i else e) d l from rfl]
    have h1 := h i (List.mem_cons_self ..)
    have : (if d ≤ i then min e i else e) = e := by split <;> omega
    rw [this]
    exact lookAt_low l e fun k hk => h k (List.mem_cons_of_mem _ hk)
/-- The week in which a failure is seen, looked for from the end. -/
def seenK (l : List Int) (d n : Int) : Nat → Int
  | 0 => n
  | k + 1 => if l.getD (l.length - (k + 1)) 0 ≥ d then l.getD (l.length - (k + 1)) 0 else seenK l d n k
theorem seenK_eq {l : List Int} (hp : l.Pairwise (· < ·)) {n : Int} (hn : ∀ i ∈ l, i < n) (d : Int) : ∀ k, k ≤ l.length → seenK l d n k = lookAt n d (l.drop (l.length - k))
  | 0, _ => by rw [Nat.sub_zero, List.drop_length]; rfl
  | k + 1, hk => by
    have hi : l.length - (k + 1) < l.length := by omega
    have ih := seenK_eq hp hn d k (by omega)
    have hg : l.getD (l.length - (k + 1)) 0 = l[l.length - (k + 1)] := by rw [List.getD_eq_getElem?_getD, List.getElem?_eq_getElem hi]; rfl
    rw [seenK, hg, List.drop_eq_getElem_cons hi, show l.length - (k + 1) + 1 = l.length - k from by omega]
    rw [show lookAt n d (l[l.length - (k + 1)] :: l.drop (l.length - k)) = lookAt (if d ≤ l[l.length - (k + 1)] then min n l[l.length - (k + 1)] else n) d (l.drop (l.length - k)) from rfl]
    have h1 := hn _ (List.getElem_mem hi)
    by_cases hd : d ≤ l[l.length - (k + 1)]
    · rw [if_pos hd, if_pos hd, lookAt_low]
      · omega
      · intro i hi2
        obtain ⟨q, hq⟩ := List.mem_iff_getElem?.1 hi2
        rw [List.getElem?_drop] at hq
        obtain ⟨hql, hqe⟩ := List.getElem?_eq_some_iff.1 hq
        have := List.pairwise_iff_getElem.1 hp (l.length - (k + 1)) (l.length - k + q) hi hql (by omega)
        omega
    · rw [if_neg (by omega), if_neg hd, ih]
theorem unseenOf_ge {n d : Int} {ins : List Int} : ∀ (ds : List Int), d ∈ ds → lookAt n d ins - d ≤ unseenOf n ds ins := by
  have mono : ∀ (ds : List Int) (a : Int), a ≤ ds.foldl (fun a d => max a (lookAt n d ins - d)) a := by
    intro ds
    induction ds with
    | nil => intro a; exact Int.le_refl _
    | cons x l ih => intro a; rw [List.foldl_cons]; have := ih (max a (lookAt n x ins - x)); omega
  have key : ∀ (ds : List Int) (a : Int), d ∈ ds → lookAt n d ins - d ≤ ds.foldl (fun a d => max a (lookAt n d ins - d)) a := by
    intro ds
    induction ds with
    | nil => intro a h; cases h
    | cons x l ih =>
      intro a h
      rw [List.foldl_cons]
      rcases List.mem_cons.1 h with rfl | h
      · have := mono l (max a (lookAt n d ins - d)); omega
      · exact ih _ h
  exact fun ds h => key ds 0 h
theorem danger_bit {s : Season} : ∀ {n i w : Nat}, i < n → (failsM s i).testBit w = true → (dangerM s n).testBit w = true
  | 0, i, w, h, _ => absurd h (Nat.not_lt_zero i)
  | n + 1, i, w, h, hb => by
    rw [dangerM, Nat.testBit_or, Bool.or_eq_true]
    by_cases e : i = n
    · subst e; exact .inr hb
    · exact .inl (danger_bit (by omega) hb)
theorem failing_has {s : Season} (h6 : s.heats.length ≤ 6) {i f : Nat} (hi : i < s.joints.length) (hb : (failsM s i).testBit f = true) (hf : f ≤ s.heats.length - 1) : ((f : Nat) : Int) ∈ listM (failingM s) := by
  refine mem_listN.2 ⟨f, rfl, by omega, ?_⟩
  unfold failingM
  rw [uptoM_bit, danger_bit hi hb, decide_eq_true hf]
  rfl
theorem keepN_nil : ∀ (a : List Seen) (i : Nat), keepN [] i a = a
  | [], i => rfl
  | r :: a, i => by rw [keepN, if_neg (by simp), keepN_nil a]
theorem wrong_none {s : Season} (c : CheckS s) (m : mayM s = true) : wrongL s = [] := by
  have e0 : withoutS s [] = s := by unfold withoutS; rw [keepN_nil]
  have h1 : fewestP s.reports.length (fun l => mayM (withoutS s l)) 1 = some [] := by
    rw [fewestP_step]
    show ((fewestP _ _ 0).or ([[]].find? _)) = _
    rw [List.find?_cons]
    simp [fewestP, e0, m]
  have h2 := fewestP_mono h1 s.reports.length
  rw [wrongL, if_pos c.ok, show s.reports.length + 1 = 1 + s.reports.length from by omega, h2]
  rfl
end Go.Wx
/- Walks: the law on what truly is so. Conditions: as each theorem states. -/
namespace Go.Proofs.Ytndfkbapoinmkaa
open Go Go.HL Go.Proofs Go.Wx Go.RowKit
set_option maxRecDepth 100000
theorem right_verdict {a b is : Bool} (h1 : is = true → a = true) (h2 : is = false → b = true) : rightM (verdictM a b) is = true := by
  cases a <;> cases b <;> cases is <;> simp_all [verdictM, rightM]
theorem looks_asc {n : Nat} {l : List Int} (h1 : ∀ z ∈ l, 0 ≤ z ∧ z < n) (h2 : l.Pairwise (· < ·)) : looksM n l = 0 := by
  unfold looksM
  refine firstErr_all fun i hi => ?_
  have hil : i < l.length := by simpa using hi
  have hgd : l.getD i 0 = l[i] := by rw [List.getD_eq_getElem?_getD, List.getElem?_eq_getElem hil]; rfl
  have hb := h1 _ (List.getElem_mem hil)
  unfold lookE
  rw [if_neg (by unfold inM; rw [hgd]; simp; omega), if_neg]
  rintro ⟨h0, hle⟩
  have hi1 : i - 1 < l.length := by omega
  have hgd1 : l.getD (i - 1) 0 = l[i - 1] := by rw [List.getD_eq_getElem?_getD, List.getElem?_eq_getElem hi1]; rfl
  rw [hgd, hgd1] at hle
  have := (List.pairwise_iff_getElem.1 h2) (i - 1) i hi1 hil (by omega)
  omega
theorem weather_of {s : Season} (c : CheckS s) (m : mayM s = true) {k : Int} (hk : k = 1 ∨ k = 2) : weatherE s k = 0 ∧ weatherL s k = (List.range s.heats.length).map (weekR (skM s k)) := by
  have e : weatherE s k = 0 := known_of c m (by intro x hx; rw [List.mem_singleton.1 hx]; unfold kindE inM; rw [if_pos (by simp; omega)])
  exact ⟨e, by unfold weatherL; rw [if_pos e]⟩
theorem first_of {s : Season} (c : CheckS s) (m : mayM s = true) : firstE s = 0 ∧ firstL s = (List.range s.joints.length).map (firstM s) := by
  have e : firstE s = 0 := known_of c m (by intro x hx; cases hx)
  exact ⟨e, by unfold firstL; rw [if_pos e]⟩
theorem sound_of {s : Season} (c : CheckS s) (m : mayM s = true) {w : Nat} (hw : w < s.heats.length) : soundE s w = 0 ∧ soundV s w = ⟨soundLo s w (allFates s), soundHi s w (allFates s)⟩ := by
  have e : soundE s w = 0 := known_of c m (by intro x hx; rw [List.mem_singleton.1 hx]; unfold isWeekM inM; rw [if_pos (by simp; omega)])
  exact ⟨e, by unfold soundV; rw [if_pos e, Int.toNat_natCast]⟩
theorem unseen_ofA {s : Season} (c : CheckS s) (m : mayM s = true) {l : List Int} (h1 : ∀ z ∈ l, 0 ≤ z ∧ z < s.heats.length) (h2 : l.Pairwise (· < ·)) : unseenE s l = 0 ∧ unseenV s l = unseenOf s.heats.length (listM (failingM s)) l := by
  have e : unseenE s l = 0 := known_of c m (by intro x hx; rw [List.mem_singleton.1 hx]; exact looks_asc h1 h2)
  exact ⟨e, by unfold unseenV; rw [if_pos e]⟩
end Go.Proofs.Ytndfkbapoinmkaa
/- Plain: a season that is known better. Conditions: as each theorem states. -/
namespace Go.Wx
open Go Go.HL
/-- What is known of a season is known better. -/
structure Better (x s : Season) : Prop where
  js : x.joints = s.joints
  hl : x.heats.length = s.heats.length
  dl : x.damps.length = s.damps.length
  hs : ∀ (i : Nat) q r, x.heats[i]? = some q → s.heats[i]? = some r → r.mn ≤ q.mn ∧ q.mx ≤ r.mx
  ds : ∀ (i : Nat) q r, x.damps[i]? = some q → s.damps[i]? = some r → r.mn ≤ q.mn ∧ q.mx ≤ r.mx
  rs : ∀ r ∈ s.reports, r ∈ x.reports
section
variable {x s : Season} (B : Better x s) (cx : CheckS x) (cs : CheckS s)
include B cx cs
theorem Better.sky {n : Int} {y : Sky} (h : y ∈ allSkies x n) : y ∈ allSkies s n := by
  have l1 : (weatherM x n).length = s.heats.length := by
    unfold weatherM
    split
    · exact B.hl
    · rw [cx.dl]; exact B.hl
  have l2 : (weatherM s n).length = s.heats.length := by
    unfold weatherM
    split
    · rfl
    · exact cs.dl
  have h6 := cs.w6
  rw [mem_allSkies (by omega)] at h ⊢
  rw [l1] at h
  rw [l2]
  refine ⟨fun i r hr => ?_, h.2⟩
  have hi := (List.getElem?_eq_some_iff.1 hr).1
  have hq : (weatherM x n)[i]? = some ((weatherM x n)[i]'(by omega)) := List.getElem?_eq_getElem (by omega)
  have h1 := h.1 i _ hq
  have h2 : r.mn ≤ ((weatherM x n)[i]'(by omega)).mn ∧ ((weatherM x n)[i]'(by omega)).mx ≤ r.mx := by
    generalize hz : (weatherM x n)[i]'(by omega) = z at hq
    unfold weatherM at hr hq
    by_cases hn : n = 1
    · rw [if_pos hn] at hr hq; exact B.hs i _ r hq hr
    · rw [if_neg hn] at hr hq; exact B.ds i _ r hq hr
  omega
theorem Better.told {i w : Nat} (h : (toldW x i).testBit w = true) : (toldW s i).testBit w = true := by
  by_cases hw : w < 64
  · rw [toldW_bit x cx.w6 (fun r hr => (checkSeen_iff.1 (cx.r r hr)).2.2.1) i w hw, Bool.and_eq_true, List.all_eq_true] at h
    rw [toldW_bit s cs.w6 (fun r hr => (checkSeen_iff.1 (cs.r r hr)).2.2.1) i w hw, Bool.and_eq_true, List.all_eq_true, ← B.hl]
    exact ⟨h.1, fun r hr => h.2 r (B.rs r hr)⟩
  · have h2 : toldW x i < 2 ^ w := Nat.lt_of_lt_of_le (toldW_lt x cx.w6 i) (Nat.pow_le_pow_right (by omega) (by omega))
    rw [Nat.testBit_lt_two_pow h2] at h
    cases h
theorem Better.surv {n : Int} {y : Sky} {i : Nat} {z : Fl} (h : z ∈ Wx.surv x n y i) : z ∈ Wx.surv s n y i := by
  unfold Wx.surv at h ⊢
  rw [B.js] at h
  cases hj : s.joints[i]? with
  | none => rw [hj] at h; cases h
  | some j =>
    rw [hj] at h
    simp only at h ⊢
    split at h
    · rename_i hk
      rw [if_pos hk]
      rw [List.mem_filter] at h ⊢
      rw [B.hl] at h
      exact ⟨h.1, B.told cx cs h.2⟩
    · cases h
theorem Better.ok {n : Int} {y : Sky} (h : okM x n y = true) : okM s n y = true := by
  rw [okM_iff] at h ⊢
  intro i j hj hk e
  have h1 := h i j (by rw [B.js]; exact hj) hk
  cases hs : Wx.surv x n y i with
  | nil => exact h1 hs
  | cons z l =>
    have := B.surv cx cs (n := n) (y := y) (i := i) (z := z) (by rw [hs]; exact List.mem_cons_self ..)
    rw [e] at this
    cases this
theorem Better.fls {n : Int} {i : Nat} {z : Fl} (h : z ∈ flsM x n i) : z ∈ flsM s n i := by
  obtain ⟨y, h1, h2, h3⟩ := mem_flsM.1 h
  exact mem_flsM.2 ⟨y, B.sky cx cs h1, B.ok cx cs h2, B.surv cx cs h3⟩
theorem Better.kind (i : Nat) : kindAt x i = kindAt s i := by unfold kindAt; rw [B.js]
theorem Better.fails {i w : Nat} (h : (failsM x i).testBit w = true) : (failsM s i).testBit w = true := by
  unfold failsM at h ⊢
  rw [maskM_bit] at h ⊢
  rw [B.kind cx cs] at h
  obtain ⟨y, hy, e⟩ := h
  exact ⟨y, B.fls cx cs hy, e⟩
theorem Better.fate {n : Int} {y : Sky} {i w : Nat} (h : (fateM x n y i).testBit w = true) : (fateM s n y i).testBit w = true := by
  unfold fateM at h ⊢
  rw [maskM_bit] at h ⊢
  obtain ⟨z, hz, e⟩ := h
  exact ⟨z, B.surv cx cs hz, e⟩
/-- Each fate of the season that is known better lies within one of the other. -/
theorem Better.fates {F' : Fate} (h : F' ∈ allFates x) : ∃ F, F ∈ allFates s ∧ ∀ i, i < 3 → ∀ w, (F'.at i).testBit w = true → (F.at i).testBit w = true := by
  obtain ⟨a, ha, b, hb, rfl⟩ := mem_allFates.1 h
  obtain ⟨u, hu⟩ := List.mem_map.1 ha
  obtain ⟨v, hv⟩ := List.mem_map.1 hb
  obtain ⟨hu1, rfl⟩ := hu
  obtain ⟨hv1, rfl⟩ := hv
  obtain ⟨u1, u2⟩ := mem_okAll.1 hu1
  obtain ⟨v1, v2⟩ := mem_okAll.1 hv1
  refine ⟨joinF (fateOf s 1 u) (fateOf s 2 v), mem_allFates.2 ⟨_, List.mem_map.2 ⟨u, mem_okAll.2 ⟨B.sky cx cs u1, B.ok cx cs u2⟩, rfl⟩, _, List.mem_map.2 ⟨v, mem_okAll.2 ⟨B.sky cx cs v1, B.ok cx cs v2⟩, rfl⟩, rfl⟩, fun i hi w hb => ?_⟩
  rw [joinF_at, Fate.of_at _ _ _ _ hi, Fate.of_at _ _ _ _ hi, Nat.testBit_or, Bool.or_eq_true] at hb ⊢
  exact hb.imp (B.fate cx cs) (B.fate cx cs)
end
theorem sub_upto {m m' w : Nat} (h : ∀ i, m'.testBit i = true → m.testBit i = true) (h0 : uptoM m w = 0) : uptoM m' w = 0 := by
  apply Nat.eq_of_testBit_eq
  intro i
  rw [Nat.zero_testBit]
  cases hb : (uptoM m' w).testBit i with
  | false => rfl
  | true =>
    rw [uptoM_bit, Bool.and_eq_true] at hb
    have : (uptoM m w).testBit i = true := by rw [uptoM_bit, h i hb.1, hb.2]; rfl
    rw [h0, Nat.zero_testBit] at this
    cases this
theorem sub_rest {m m' w : Nat} (h : ∀ i, m'.testBit i = true → m.testBit i = true) (h0 : m = uptoM m w) : m' = uptoM m' w := by
  apply Nat.eq_of_testBit_eq
  intro i
  rw [uptoM_bit]
  cases hb : m'.testBit i with
  | false => rfl
  | true =>
    have h1 := h i hb
    rw [h0, uptoM_bit, Bool.and_eq_true] at h1
    rw [h1.2]
    rfl
theorem must_sub {F F' : Fate} {w : Nat} : ∀ n, (∀ i, i < n → ∀ v, (F'.at i).testBit v = true → (F.at i).testBit v = true) → mustN F w n ≤ mustN F' w n ∧ canN F' w n ≤ canN F w n
  | 0, _ => ⟨Nat.le_refl _, Nat.le_refl _⟩
  | n + 1, h => by
    obtain ⟨h1, h2⟩ := must_sub (w := w) n fun i hi => h i (by omega)
    have hn := h n (by omega)
    rw [mustN, mustN, canN, canN]
    constructor
    · by_cases h0 : uptoM (F.at n) w = 0
      · rw [if_pos h0, if_pos (sub_upto hn h0)]; omega
      · rw [if_neg h0]; split <;> omega
    · by_cases h0 : F.at n = uptoM (F.at n) w
      · rw [if_neg (not_not_intro h0), if_neg (not_not_intro (sub_rest hn h0))]; omega
      · rw [if_pos h0]; split <;> omega
theorem list_sub {m m' : Nat} (h : ∀ i, m'.testBit i = true → m.testBit i = true) {z : Int} (hz : z ∈ listM m') : z ∈ listM m := by
  obtain ⟨i, rfl, hi, hb⟩ := listN_mem hz
  exact mem_listN.2 ⟨i, rfl, hi, h i hb⟩
section
variable {x s : Season} (B : Better x s) (cx : CheckS x) (cs : CheckS s)
include B cx cs
theorem Better.sound (w : Nat) : soundLo s w (allFates s) ≤ soundLo x w (allFates x) ∧ soundHi x w (allFates x) ≤ soundHi s w (allFates s) := by
  have hj : x.joints.length = s.joints.length := by rw [B.js]
  have j3 := cs.j3
  have lo := (foldl_min (fun f => mustN f w s.joints.length) (allFates s) s.joints.length (soundLo s w (allFates s))).1 (Nat.le_refl _)
  have hi := (foldl_max (fun f => canN f w s.joints.length) (allFates s) 0 (soundHi s w (allFates s))).1 (Nat.le_refl _)
  constructor
  · unfold soundLo
    rw [hj]
    refine (foldl_min _ _ _ _).2 ⟨lo.1, fun F' hF' => ?_⟩
    obtain ⟨F, hF, hsub⟩ := B.fates cx cs hF'
    exact Nat.le_trans (lo.2 F hF) (must_sub _ fun i hi => hsub i (by omega)).1
  · unfold soundHi
    rw [hj]
    refine (foldl_max _ _ _ _).2 ⟨Nat.zero_le _, fun F' hF' => ?_⟩
    obtain ⟨F, hF, hsub⟩ := B.fates cx cs hF'
    exact Nat.le_trans (must_sub _ fun i hi => hsub i (by omega)).2 (hi.2 F hF)
theorem Better.first (hx : mayM x = true) {j : Nat} : ((allFates x).any (isF x j) = true → (allFates s).any (isF s j) = true) ∧ ((allFates x).any (noF x j) = true → (allFates s).any (noF s j) = true) := by
  have hjl : x.joints.length = s.joints.length := by rw [B.js]
  have j3 := cs.j3
  have SV := checkM_zero cx.ok
  have ends : ∀ (F' F : Fate), F' ∈ allFates x → (∀ i, i < 3 → ∀ w, (F'.at i).testBit w = true → (F.at i).testBit w = true) → ∀ n, n ≤ s.joints.length → latP x F' j n ≤ latP s F j n ∧ soonP s F j n ≤ soonP x F' j n := by
    intro F' F hF' hsub n
    induction n with
    | zero => intro _; rw [latP, latP, soonP, soonP, B.hl]; exact ⟨Int.le_refl _, Int.le_refl _⟩
    | succ n ih =>
      intro hn
      obtain ⟨h1, h2⟩ := ih (by omega)
      have hne : listM (F'.at n) ≠ [] := listM_ne (allFates_ne SV hF' (by omega)) ((allFates_b cx.w6 hF').at n)
      have hs := hsub n (by omega)
      have e1 : (listM (F'.at n)).getLastD 0 ∈ listM (F'.at n) := by rw [List.getLastD_eq_getLast?, List.getLast?_eq_some_getLast hne]; exact List.getLast_mem hne
      have e2 : (listM (F'.at n)).headD 0 ∈ listM (F'.at n) := by cases e : listM (F'.at n) with | nil => exact absurd e hne | cons a l => exact List.mem_cons_self ..
      have g1 := mem_le_last (list_sub hs e1)
      have g2 := head_le_mem (list_sub hs e2)
      rw [latP, latP, soonP, soonP]
      split
      · exact ⟨h1, h2⟩
      · omega
  constructor
  · intro h
    obtain ⟨F', hF', h⟩ := List.any_eq_true.1 h
    obtain ⟨F, hF, hsub⟩ := B.fates cx cs hF'
    refine List.any_eq_true.2 ⟨F, hF, ?_⟩
    unfold isF at h ⊢
    obtain ⟨w, hw, h⟩ := List.any_eq_true.1 h
    by_cases hj : j < 3
    · refine List.any_eq_true.2 ⟨w, list_sub (hsub j hj) hw, ?_⟩
      unfold isW at h ⊢
      rw [Bool.and_eq_true, decide_eq_true_eq, decide_eq_true_eq] at h ⊢
      have := (ends F' F hF' hsub s.joints.length (Nat.le_refl _)).1
      rw [hjl, B.hl] at h
      omega
    · have h2 : F'.at j = F'.at 2 ∧ F.at j = F.at 2 := by
        match j, hj with
        | j + 3, _ => exact ⟨rfl, rfl⟩
        | 0, h => exact absurd (by omega) h
        | 1, h => exact absurd (by omega) h
        | 2, h => exact absurd (by omega) h
      rw [h2.1] at hw
      rw [h2.2]
      refine List.any_eq_true.2 ⟨w, list_sub (hsub 2 (by omega)) hw, ?_⟩
      unfold isW at h ⊢
      rw [Bool.and_eq_true, decide_eq_true_eq, decide_eq_true_eq] at h ⊢
      have := (ends F' F hF' hsub s.joints.length (Nat.le_refl _)).1
      rw [hjl, B.hl] at h
      omega
  · intro h
    obtain ⟨F', hF', h⟩ := List.any_eq_true.1 h
    obtain ⟨F, hF, hsub⟩ := B.fates cx cs hF'
    refine List.any_eq_true.2 ⟨F, hF, ?_⟩
    unfold noF at h ⊢
    obtain ⟨w, hw, h⟩ := List.any_eq_true.1 h
    have hmem : w ∈ listM (F.at j) := by
      by_cases hj : j < 3
      · exact list_sub (hsub j hj) hw
      · have h2 : F'.at j = F'.at 2 ∧ F.at j = F.at 2 := by
          match j, hj with
          | j + 3, _ => exact ⟨rfl, rfl⟩
          | 0, h => exact absurd (by omega) h
          | 1, h => exact absurd (by omega) h
          | 2, h => exact absurd (by omega) h
        rw [h2.1] at hw
        rw [h2.2]
        exact list_sub (hsub 2 (by omega)) hw
    refine List.any_eq_true.2 ⟨w, hmem, ?_⟩
    unfold noW at h ⊢
    rw [Bool.or_eq_true, decide_eq_true_eq, decide_eq_true_eq] at h ⊢
    have := (ends F' F hF' hsub s.joints.length (Nat.le_refl _)).2
    rw [hjl, B.hl] at h
    omega
theorem Better.cause {i k : Nat} : ((flsM x (kindAt x i) i).any (fun y => y.causes.testBit k) = true → (flsM s (kindAt s i) i).any (fun y => y.causes.testBit k) = true) ∧ ((flsM x (kindAt x i) i).any (fun y => !y.causes.testBit k) = true → (flsM s (kindAt s i) i).any (fun y => !y.causes.testBit k) = true) := by
  rw [B.kind cx cs]
  constructor <;>
  · intro h
    obtain ⟨y, hy, e⟩ := List.any_eq_true.1 h
    exact List.any_eq_true.2 ⟨y, B.fls cx cs hy, e⟩
end
/-- A verdict that is sure stays. -/
theorem verdict_better {a b a' b' : Bool} (h1 : a' = true → a = true) (h2 : b' = true → b = true) (h3 : a' = true ∨ b' = true) (h : verdictM a b ≠ 3) : verdictM a' b' = verdictM a b := by
  cases a <;> cases b <;> cases a' <;> cases b' <;> simp_all [verdictM]
theorem any_or {l : List Fl} (h : l ≠ []) (p : Fl → Bool) : l.any p = true ∨ l.any (fun y => !p y) = true := by
  cases l with
  | nil => exact absurd rfl h
  | cons y l =>
    cases hp : p y with
    | true => exact .inl (List.any_eq_true.2 ⟨y, List.mem_cons_self .., hp⟩)
    | false => exact .inr (List.any_eq_true.2 ⟨y, List.mem_cons_self .., by rw [hp]; rfl⟩)
/-- Ranges about the truth, made narrower. -/
theorem NearR.narrow {t : Int} {r q : Rg} (n : NearR t (-50) 100 1 r) (h1 : r.mn ≤ q.mn) (h2 : q.mn ≤ t) (h3 : t ≤ q.mx) (h4 : q.mx ≤ r.mx) : NearR t (-50) 100 1 q := by
  obtain ⟨u, w, a1, a2, a3, a4, rfl⟩ := n
  obtain ⟨qn, qx⟩ := q
  dsimp only at *
  refine ⟨t - qn, qx - t, by omega, by omega, by omega, by omega, ?_⟩
  congr 1 <;> omega
end Go.Wx
/- Plain: ranges made narrower, one by one. Conditions: as each theorem states. -/
namespace Go.Wx
open Go Go.HL
def NarrowL (ts : List Int) (rs qs : List Rg) : Prop := qs.length = rs.length ∧ ∀ (k : Nat) q r t, qs[k]? = some q → rs[k]? = some r → ts[k]? = some t → r.mn ≤ q.mn ∧ q.mn ≤ t ∧ t ≤ q.mx ∧ q.mx ≤ r.mx
theorem NarrowL.start {ts : List Int} {rs : List Rg} (n : NearL ts rs) (hb : ∀ t ∈ ts, -50 ≤ t ∧ t ≤ 100) : NarrowL ts rs rs := by
  refine ⟨rfl, fun k q r t h1 h2 h3 => ?_⟩
  rw [h1] at h2
  cases h2
  have hn := n.at' k t q h3 h1
  have := hb t (List.mem_of_getElem? h3)
  have := hn.bd this.1 this.2
  omega
theorem NarrowL.set {ts : List Int} {rs qs : List Rg} (n : NarrowL ts rs qs) {i : Nat} {r q : Rg} {t : Int} (hr : rs[i]? = some r) (ht : ts[i]? = some t) (h : r.mn ≤ q.mn ∧ q.mn ≤ t ∧ t ≤ q.mx ∧ q.mx ≤ r.mx) : NarrowL ts rs (qs.set i q) := by
  refine ⟨by rw [List.length_set]; exact n.1, fun k q' r' t' h1 h2 h3 => ?_⟩
  rw [List.getElem?_set] at h1
  by_cases hk : i = k
  · subst hk
    rw [if_pos rfl] at h1
    split at h1
    · cases h1
      rw [hr] at h2
      rw [ht] at h3
      cases h2
      cases h3
      exact h
    · cases h1
  · rw [if_neg hk] at h1
    exact n.2 k q' r' t' h1 h2 h3
theorem NarrowL.near {ts : List Int} {rs qs : List Rg} (n : NarrowL ts rs qs) (N : NearL ts rs) : NearL ts qs := by
  refine ⟨by rw [n.1]; exact N.len, fun k t q h1 h2 => ?_⟩
  have hk := (List.getElem?_eq_some_iff.1 h2).1
  have hr : rs[k]? = some (rs[k]'(by rw [← n.1]; exact hk)) := List.getElem?_eq_getElem (by rw [← n.1]; exact hk)
  have := n.2 k q _ t h2 hr h1
  exact (N.at' k t _ h1 hr).narrow this.1 this.2.1 this.2.2.1 this.2.2.2
theorem narrow_T {a b c : Nat} {s : Season} {ht dt fs : List Int} (T : SeasonT a b c s ht dt fs) {qh qd : List Rg} (nh : NarrowL ht s.heats qh) (nd : NarrowL dt s.damps qd) : SeasonT a b c ⟨qh, qd, s.joints, s.reports⟩ ht dt fs ∧ Better ⟨qh, qd, s.joints, s.reports⟩ s := by
  have h1 := T.hn.len
  have h2 := T.dn.len
  refine ⟨⟨T.w1, T.ww, T.dl, nh.near T.hn, nd.near T.dn, T.hb, T.db, T.jl, T.js, T.rl, T.rs⟩, rfl, nh.1, nd.1, fun i q r hq hr => ?_, fun i q r hq hr => ?_, fun r hr => hr⟩
  · have hi := (List.getElem?_eq_some_iff.1 hr).1
    have ht' : ht[i]? = some (ht[i]'(by omega)) := List.getElem?_eq_getElem (by omega)
    have := nh.2 i q r _ hq hr ht'
    exact ⟨this.1, this.2.2.2⟩
  · have hi := (List.getElem?_eq_some_iff.1 hr).1
    have ht' : dt[i]? = some (dt[i]'(by omega)) := List.getElem?_eq_getElem (by omega)
    have := nd.2 i q r _ hq hr ht'
    exact ⟨this.1, this.2.2.2⟩
theorem with_T {a b c : Nat} {s x : Season} {ht dt fs : List Int} (T : SeasonT a b c x ht dt fs) (B : Better x s) {r : Seen} (hr : SeenT ht.length fs r) : SeasonT a b (c + 1) (withS x r) ht dt fs ∧ Better (withS x r) s := by
  refine ⟨⟨T.w1, T.ww, T.dl, T.hn, T.dn, T.hb, T.db, T.jl, T.js, ?_, fun q hq => ?_⟩, B.js, B.hl, B.dl, B.hs, B.ds, fun q hq => List.mem_append_left _ (B.rs q hq)⟩
  · have := T.rl
    show (x.reports ++ [r]).length ≤ c + 1
    rw [List.length_append, List.length_singleton]
    omega
  · rcases List.mem_append.1 hq with h | h
    · exact T.rs q h
    · rw [List.mem_singleton.1 h]; exact hr
end Go.Wx
/- Walks: the law on what is known better. Conditions: as each theorem states. -/
namespace Go.Proofs.Ytndfkbapoinmkaa
open Go Go.HL Go.Proofs Go.Wx Go.RowKit
set_option maxRecDepth 100000
structure BetA where
  y : Nat
  xs : Season
  X0 : Option Addr
  X1 : Option Addr
  X2 : Option Addr
  X3 : Option Addr
  k0 : Nat
  k1 : Nat
  k2 : Nat
  k3 : Nat
theorem causes_of {s : Season} (c : CheckS s) (m : mayM s = true) {j : Nat} (hj : j < s.joints.length) : causesL s j = (List.range 3).map (causeM s j) := by
  have := (fails_of c m hj).1
  unfold causesL
  rw [if_pos this]
  rfl
theorem with_fine {x : Season} (c : CheckS x) {r : Seen} (h5 : x.reports.length < 5) (hr : checkSeenM x r = 0) (m : mayM (withS x r) = true) : withE x r = 0 ∧ withV x r = withS x r := by
  have e : withE x r = 0 := by rw [withE, if_neg (by rw [c.ok]; decide), if_neg (by omega), if_neg (by rw [hr]; decide), m]; rfl
  exact ⟨e, by rw [withV, if_pos e]⟩
set_option maxHeartbeats 16000000 in
theorem better_calls (w : World) (l : List Int) (hl : l.length < 2 ^ 63) (A : Option Addr) (c : Nat) (R : Row (absH w.heap) 1 intC A l) : Calls Try.prog 13 #[.slice A l.length c] w (fun e w' => e = .returned (.bool true) ∧ Below w.heap.size w w') := by
  refine calls_body Try.func13 rfl Try.ntmps13 rfl Try.results13 rfl fun h hh => ?_
  rw [← hh] at R
  refine xp_seq ?_
  refine xp_region rfl ?_
  refine op_pure (pv_assign (v := .bool _) rfl) ?_
  refine xp_seq ?_
  refine xp_region rfl ?_
  refine op_pure (pv_move (v := .slice _ _ _) rfl) ?_
  refine op_fnMM [] [] [] rfl rfl rfl ((NewPot_ok l hl A c h R)) ?_
  rintro _ h1 _ E1 ⟨b, x, rfl, rfl⟩
  refine wp_norm [_] rfl ?_
  refine op_pure (pv_assign (v := .pointer _) rfl) ?_
  refine xp_seq ?_
  refine xp_region rfl ?_
  refine op_pure (pv_move (v := .pointer _) rfl) ?_
  refine op_fnMM [] [_] [] (vs := _) rfl rfl rfl ((SeasonOf_ok b x 5 3 3 (by omega) (by omega) (by omega) (by omega) h1)) ?_
  rintro _ h2 _ E2 ⟨x2, s, ht, dt, fs, _, _, rfl, rfl, ⟨A0, A1, A2, A3, c0, c1, c2, c3, rfl, RS⟩, T, HA, hc, DA, dc, FA, fc, rfl, R1, R2, R3⟩
  refine wp_norm [_] rfl ?_
  have C : CheckS s := SeasonT.checkS T (by omega) (by omega) (by omega)
  have Sm : Small s := small_of C
  have hmay : mayM s = true := may_T T (by omega)
  have h6 := C.w6
  have h1w := C.w1
  have j3 := C.j3
  have rr5 := C.r5
  have hdd := C.dl
  have hfl : fs.length = s.joints.length := T.js.len
  have hhl : ht.length = s.heats.length := T.hn.len.symm
  have hdl : dt.length = s.heats.length := by rw [T.dl, hhl]
  refine op_pure (pv_move (v := .tuple #[.agg #[.slice _ _ _, .slice _ _ _, .slice _ _ _, .slice _ _ _], .agg #[.slice _ _ _, .slice _ _ _, .slice _ _ _]]) rfl) ?_
  refine op_pure (pv_of (v := .agg #[.slice _ _ _, .slice _ _ _, .slice _ _ _, .slice _ _ _]) rfl) ?_
  refine op_pure (pv_of (v := .agg #[.slice _ _ _, .slice _ _ _, .slice _ _ _]) rfl) ?_
  refine op_alloc (cs := [_, _, _, _]) rfl rfl fun b4 hb4 => ?_
  refine wp_norm [_, _] rfl ?_
  refine op_alloc (cs := [_, _, _]) rfl rfl fun b5 hb5 => ?_
  refine wp_norm [_, _, _] rfl ?_
  refine op_storeP 1 (v := .agg #[.slice _ _ _, .slice _ _ _, .slice _ _ _, .slice _ _ _]) (vs := [_, _, _, _]) (c' := [_, _, _, _]) rfl rfl rfl rfl rfl rfl rfl rfl rfl ?_
  refine wp_norm [_, _, _] rfl ?_
  refine op_storeP 2 (v := .agg #[.slice _ _ _, .slice _ _ _, .slice _ _ _]) (vs := [_, _, _]) (c' := [_, _, _]) rfl rfl rfl rfl rfl rfl rfl rfl rfl ?_
  refine wp_norm [_, _, _] rfl ?_
  refine xp_seq ?_
  refine xp_region rfl ?_
  refine op_loadPA 1 (vs := [.slice _ _ _, .slice _ _ _, .slice _ _ _, .slice _ _ _]) rfl rfl rfl rfl rfl ?_
  refine op_fnMM [_, _, _] [] [] rfl rfl rfl (CopySeason_ok s A0 A1 A2 A3 c0 c1 c2 c3 h2 (RS.ext (Ext.refl _)) (by omega) (by omega) (by omega) (by omega)) ?_
  rintro _ h4 _ E4 ⟨a0, a1, ⟨p2, B2, n2, d2⟩, ⟨p3, B3, n3, d3⟩, rfl, rfl, ha0, ha1, ha2, ha3⟩
  refine wp_norm [_, _, _, _, _, _, _] rfl ?_
  obtain rfl : n2 = s.joints.length := by have := AccR.len ha2; rw [flat_len (m := 9) (fun _ _ => rfl)] at this; dsimp only at this; omega
  obtain rfl : n3 = s.reports.length := by have := AccR.len ha3; rw [flat_len (m := 3) (fun _ _ => rfl)] at this; dsimp only at this; omega
  obtain ⟨bH, lenH, capH, junkH, hlH, rfl⟩ := AccR.some ha0 (flat_ne rgM2 (by omega) (by intro e; rw [e] at h1w; simp at h1w))
  obtain ⟨bD, lenD, capD, junkD, hlD, rfl⟩ := AccR.some ha1 (flat_ne rgM2 (by omega) (by intro e; rw [e] at hdd; simp at hdd; omega))
  obtain rfl : lenH = s.heats.length := by rw [flat_len (m := 2) (fun _ _ => rfl)] at hlH; omega
  obtain rfl : lenD = s.damps.length := by rw [flat_len (m := 2) (fun _ _ => rfl)] at hlD; omega
  dsimp only
  refine op_alloc (cs := [_, _, _, _]) rfl rfl fun b6 hb6 => ?_
  refine wp_norm [_, _, _, _, _, _, _, _] rfl ?_
  refine op_storeP 7 (v := .agg #[.slice _ _ _, .slice _ _ _, .slice _ _ _, .slice _ _ _]) (vs := [_, _, _, _]) (c' := [_, _, _, _]) rfl rfl rfl rfl rfl rfl rfl rfl rfl ?_
  refine wp_norm [_, _, _, _, _, _, _, _] rfl ?_
  refine xp_seq ?_
  refine xp_seq ?_
  refine xp_region rfl ?_
  refine op_pure (pv_assign (v := .int .i64 _) rfl) ?_
  refine xp_block ?_
  refine xp_loopL [7, 39, 40, 41, 42, 43, 44, 45, 46, 47, 48, 49, 50, 51, 52, 53, 54, 55, 56, 57, 58, 59, 60, 61, 62, 63, 64, 65, 66, 67, 68, 69, 70, 71, 72, 73, 74, 75, 76, 77] 8 (α := Nat × Nat × List Rg × List Rg) (fun ⟨i, y, qh, qd⟩ => [(7, .int .i64 i)]) (fun ⟨i, y, qh, qd⟩ L => ((L.set 0 (some (b, .cells #[.int .u64 (y : Int)] 95 (0, 0)))).set 3 (some (bH, .cells (qh.flatMap rgC ++ junkH).toArray 51 (0, 0)))).set 4 (some (bD, .cells (qd.flatMap rgC ++ junkD).toArray 51 (0, 0)))) (fun ⟨i, y, qh, qd⟩ h_i => i ≤ s.heats.length ∧ NarrowL ht s.heats qh ∧ NarrowL dt s.damps qd) (fun ⟨i, y, qh, qd⟩ => s.heats.length - i) ((0, x2, s.heats, s.damps)) ⟨rfl, trivial⟩ (rfl) (⟨Nat.zero_le _, NarrowL.start T.hn (fun t h => by have := T.hb t h; omega), NarrowL.start T.dn (fun t h => by have := T.db t h; omega)⟩) ?_
  rintro ⟨i, y, qh, qd⟩ T1 h_i E_i J_i
  refine goes_norm [_, _, _, _, _, _, _, _] rfl ?_
  obtain ⟨K1, K2, K3⟩ := J_i
  have lq1 := K2.1
  have lq2 := K3.1
  refine xp_seq ?_
  refine xp_seq ?_
  refine xp_region rfl ?_
  refine op_pure (pv_move (v := .int .i64 _) rfl) ?_
  refine op_pure (pv_fieldAddr rfl rfl rfl rfl 0 rfl) ?_
  refine op_loadP 1 (v := .slice _ _ _) rfl rfl rfl rfl ?_
  refine op_pure (pv_len rfl rfl) ?_
  refine op_pure (pv_of (v := .bool _) rfl) ?_
  refine xp_cond rfl (fun hi => ?_) (fun hi => ?_)
  · skip
    have hil : i < s.heats.length := ltI hi
    have hid : i < s.damps.length := by omega
    have hih : i < ht.length := by omega
    have hit : i < dt.length := by omega
    obtain ⟨g1, o1, hA0, hc0⟩ := (RS.heats.ext (Ext.trans E4 E_i)).at (by omega) hil
    obtain ⟨g2, o2, hA1, hc1⟩ := (RS.damps.ext (Ext.trans E4 E_i)).at (by omega) hid
    obtain ⟨g3, o3, hA2, hc2⟩ := (R1.ext (Ext.trans E4 E_i)).at (by omega) hih
    obtain ⟨g4, o4, hA3, hc3⟩ := (R2.ext (Ext.trans E4 E_i)).at (by omega) hit
    have N1 := T.hn.at' i _ _ (List.getElem?_eq_getElem hih) (List.getElem?_eq_getElem hil)
    have N2 := T.dn.at' i _ _ (List.getElem?_eq_getElem hit) (List.getElem?_eq_getElem hid)
    have b1 := T.hb _ (List.getElem_mem hih)
    have b2 := T.db _ (List.getElem_mem hit)
    have N1b := N1.bd (by omega) (by omega)
    have N2b := N2.bd (by omega) (by omega)
    refine xp_skip ?_
    refine xp_seq ?_
    refine xp_block ?_
    refine xp_dw [true, false, false, true, true] rfl rfl rfl ?_
    refine dw_pure (i := 0) rfl (by decide +kernel) (pv_fieldAddr rfl rfl rfl rfl 0 rfl) ?_
    refine dw_load (i := 1) rfl (by decide +kernel) ?_
    refine op_loadP 7 (v := .slice _ _ _) rfl rfl rfl rfl ?_
    refine dw_pure (i := 2) rfl (by decide +kernel) (pv_move (v := .int .i64 _) rfl) ?_
    refine dw_pure (i := 3) rfl (by decide +kernel) (pv_fieldAddr rfl rfl rfl rfl 1 rfl) ?_
    refine dw_load (i := 4) rfl (by decide +kernel) ?_
    refine op_loadP 7 (v := .slice _ _ _) rfl rfl rfl rfl ?_
    refine dw_pure (i := 5) rfl (by decide +kernel) (pv_move (v := .int .i64 _) rfl) ?_
    refine dw_pure (i := 6) rfl (by decide +kernel) (pv_move (v := .pointer _) rfl) ?_
    refine dw_pure (i := 7) rfl (by decide +kernel) (pv_fieldAddr rfl rfl rfl rfl 0 rfl) ?_
    refine dw_load (i := 8) rfl (by decide +kernel) ?_
    refine op_loadP 1 (v := .slice _ _ _) rfl rfl rfl rfl ?_
    refine dw_pure (i := 9) rfl (by decide +kernel) (pv_move (v := .int .i64 _) rfl) ?_
    refine dw_pure (i := 10) rfl (by decide +kernel) (pv_indexE rfl hA0 rfl rfl rfl (by omega) (by omega)) ?_
    refine dw_load (i := 11) rfl (by decide +kernel) ?_
    refine op_loadA rfl rfl rfl rfl (hc0) ?_
    refine dw_pure (i := 12) rfl (by decide +kernel) (pv_fieldAddr rfl rfl rfl rfl 0 rfl) ?_
    refine dw_load (i := 13) rfl (by decide +kernel) ?_
    refine op_loadP 2 (v := .slice _ _ _) rfl rfl rfl rfl ?_
    refine dw_pure (i := 14) rfl (by decide +kernel) (pv_move (v := .int .i64 _) rfl) ?_
    refine dw_pure (i := 15) rfl (by decide +kernel) (pv_indexE rfl hA2 rfl rfl rfl (by omega) (by omega)) ?_
    refine dw_load (i := 16) rfl (by decide +kernel) ?_
    refine op_load (v := .int .i64 _) rfl rfl ((hc2) 0 _ rfl) ?_
    refine dw_pure (i := 18) rfl (by decide +kernel) (pv_move (v := .pointer _) rfl) ?_
    refine dw_pure (i := 19) rfl (by decide +kernel) (pv_fieldAddr rfl rfl rfl rfl 1 rfl) ?_
    refine dw_load (i := 20) rfl (by decide +kernel) ?_
    refine op_loadP 1 (v := .slice _ _ _) rfl rfl rfl rfl ?_
    refine dw_pure (i := 21) rfl (by decide +kernel) (pv_move (v := .int .i64 _) rfl) ?_
    refine dw_pure (i := 22) rfl (by decide +kernel) (pv_indexE rfl hA1 rfl rfl rfl (by omega) (by omega)) ?_
    refine dw_load (i := 23) rfl (by decide +kernel) ?_
    refine op_loadA rfl rfl rfl rfl (hc1) ?_
    refine dw_pure (i := 24) rfl (by decide +kernel) (pv_fieldAddr rfl rfl rfl rfl 1 rfl) ?_
    refine dw_load (i := 25) rfl (by decide +kernel) ?_
    refine op_loadP 2 (v := .slice _ _ _) rfl rfl rfl rfl ?_
    refine dw_pure (i := 26) rfl (by decide +kernel) (pv_move (v := .int .i64 _) rfl) ?_
    refine dw_pure (i := 27) rfl (by decide +kernel) (pv_indexE rfl hA3 rfl rfl rfl (by omega) (by omega)) ?_
    refine dw_load (i := 28) rfl (by decide +kernel) ?_
    refine op_load (v := .int .i64 _) rfl rfl ((hc3) 0 _ rfl) ?_
    refine dw_eff (i := 17) rfl (by decide +kernel) ?_
    refine op_fnMM [] [_] [_, _, _, _, _, _, _] (vs := [.pointer _, .agg #[.int .i64 _, .int .i64 _], .int .i64 _]) rfl rfl rfl ((Narrow_ok b y s.heats[i] ht[i] (by omega) (by omega) (by omega) (by omega) h_i)) ?_
    rintro _ g5 _ G5 ⟨y5, q1, rfl, rfl, q11, q12, q13, q14⟩
    refine ⟨ext_wlm G5 _, ?_⟩
    refine dw_norm [_, _, _, _, _, _, _, _] rfl ?_
    refine dw_eff (i := 29) rfl (by decide +kernel) ?_
    refine op_fnMM [] [_] [_, _, _, _, _, _, _] (vs := [.pointer _, .agg #[.int .i64 _, .int .i64 _], .int .i64 _]) rfl rfl rfl ((Narrow_ok b y5 s.damps[i] dt[i] (by omega) (by omega) (by omega) (by omega) g5)) ?_
    rintro _ g6 _ G6 ⟨y6, q2, rfl, rfl, q21, q22, q23, q24⟩
    refine ⟨ext_wlm G6 _, ?_⟩
    refine dw_norm [_, _, _, _, _, _, _, _] rfl ?_
    refine dw_pure (i := 30) rfl (by decide +kernel) (pv_index rfl rfl rfl rfl (by omega) (by omega)) ?_
    refine dw_eff (i := 31) rfl (by decide +kernel) ?_
    refine op_storeP 3 (m := 2) (v := .agg #[.int .i64 q1.mn, .int .i64 q1.mx]) (vs := [.int .i64 q1.mn, .int .i64 q1.mx]) (off := 0 + (i : Int).toNat * 2) (c' := (qh.set i q1).flatMap rgC ++ junkH) rfl rfl rfl rfl rfl rfl (Nat.ble_eq_true_of_le (by rw [List.length_append, flat_len (m := 2) (fun _ _ => rfl)]; omega)) rfl (by rw [show 0 + (i : Int).toNat * 2 = i * 2 + 0 from by omega]; exact flat_wr rgM2 (by omega) (by simp) rfl junkH) ?_
    refine ⟨Ext.refl _, ?_⟩
    refine dw_norm [_, _, _, _, _, _, _, _] rfl ?_
    refine dw_pure (i := 32) rfl (by decide +kernel) (pv_index rfl rfl rfl rfl (by omega) (by omega)) ?_
    refine dw_last (i := 33) rfl (by decide +kernel) (by decide +kernel) ?_
    refine op_storeP 4 (m := 2) (v := .agg #[.int .i64 q2.mn, .int .i64 q2.mx]) (vs := [.int .i64 q2.mn, .int .i64 q2.mx]) (off := 0 + (i : Int).toNat * 2) (c' := (qd.set i q2).flatMap rgC ++ junkD) rfl rfl rfl rfl rfl rfl (Nat.ble_eq_true_of_le (by rw [List.length_append, flat_len (m := 2) (fun _ _ => rfl)]; omega)) rfl (by rw [show 0 + (i : Int).toNat * 2 = i * 2 + 0 from by omega]; exact flat_wr rgM2 (by omega) (by simp) rfl junkD) ?_
    refine dw_norm [_, _, _, _, _, _, _, _] rfl ?_
    refine dw_end rfl ?_
    refine xp_region rfl ?_
    refine op_pure (pv_move (v := .int .i64 _) rfl) ?_
    refine op_pure (pv_arith rfl (by omega)) ?_
    refine op_pure (pv_assign (v := .int .i64 _) rfl) ?_
    refine ⟨(i + 1, y6, qh.set i q1, qd.set i q2), ⟨rfl, trivial⟩, rfl, rfl, (Ext.trans (Ext.trans E_i G5) G6), fun h3 E3 => ⟨hil, K2.set (List.getElem?_eq_getElem hil) (List.getElem?_eq_getElem hih) ⟨q11, q12, q13, q14⟩, K3.set (List.getElem?_eq_getElem hid) (List.getElem?_eq_getElem hit) ⟨q21, q22, q23, q24⟩⟩, by first | omega | (dsimp only; omega), ?_⟩
    repeat (first | exact off_base _ _ _ | refine off_upd (by decide) ?_ | refine off_updL rfl ?_ | refine off_mix rfl ?_)
  · skip
    obtain ⟨T1, B1⟩ := narrow_T T K2 K3
    obtain ⟨x1, hx1⟩ : ∃ x1 : Season, x1 = ⟨qh, qd, s.joints, s.reports⟩ := ⟨_, rfl⟩
    rw [← hx1] at T1 B1
    have C1 : CheckS x1 := SeasonT.checkS T1 (by omega) (by omega) (by omega)
    have v1 : seasonV (some ⟨bH, 0, none⟩) (some ⟨bD, 0, none⟩) B2 B3 capH capD d2 d3 x1 = .agg #[.slice (some ⟨bH, 0, none⟩) s.heats.length capH, .slice (some ⟨bD, 0, none⟩) s.damps.length capD, .slice B2 s.joints.length d2, .slice B3 s.reports.length d3] := by
      rw [hx1]; unfold seasonV; dsimp only; rw [lq1, lq2]
    refine goes_pub 3 rfl ?_
    intro m0 M0 P0
    refine goes_pub 4 rfl ?_
    intro m1 M1 P1
    refine goes_pubO 5 rfl ?_
    intro m2 M2 P2
    refine goes_norm [_, _, _, _, _, _, _, _] rfl ?_
    refine goes_pubO 6 rfl ?_
    intro m3 M3 P3
    refine goes_norm [_, _, _, _, _, _, _, _] rfl ?_
    have R1x : SeasonR m3 (some ⟨bH, 0, none⟩) (some ⟨bD, 0, none⟩) B2 B3 x1 := by
      rw [hx1]
      exact ⟨(rg_row P0).ext (Ext.trans (Ext.trans M1 M2) M3), (rg_row P1).ext (Ext.trans M2 M3), ⟨fun _ _ => rfl, (AccR.rd ha2 P2).ext M3⟩, ⟨fun _ _ => rfl, AccR.rd ha3 P3⟩⟩
    refine xp_exit ?_
    refine xp_cutB [2, 8, 9, 78, 79, 80, 81, 82, 83, 84, 85, 86, 87, 88, 89, 90, 91, 92, 93, 94, 95, 96, 97, 98, 99, 100, 101, 102] 8 (α := BetA) (fun z => []) (fun z L => (L.set 0 (some (b, .cells #[.int .u64 (z.y : Int)] 95 (0, 0)))).set 7 (some (b6, .cells #[.slice z.X0 z.xs.heats.length z.k0, .slice z.X1 z.xs.damps.length z.k1, .slice z.X2 z.xs.joints.length z.k2, .slice z.X3 z.xs.reports.length z.k3] 26 (0, 0)))) (fun z h_z => SeasonR h_z z.X0 z.X1 z.X2 z.X3 z.xs ∧ Better z.xs s ∧ SeasonT 5 3 4 z.xs ht dt fs) ?_ ?_
    · skip
      refine xp_seq ?_
      refine xp_region rfl ?_
      refine op_pure (pv_fieldAddr rfl rfl rfl rfl 2 rfl) ?_
      refine op_loadP 1 (v := .slice _ _ _) rfl rfl rfl rfl ?_
      refine op_pure (pv_len rfl rfl) ?_
      refine op_pure (pv_of (v := .bool _) rfl) ?_
      refine xp_cond rfl (fun hj0 => ?_) (fun hj0 => ?_)
      · skip
        have hj0' : 0 < s.joints.length := by have := of_decide_eq_true hj0; omega
        refine xp_seq ?_
        refine xp_dw [true] rfl rfl rfl ?_
        refine dw_load (i := 0) rfl (by decide +kernel) ?_
        refine op_loadPA 7 (vs := [.slice _ _ _, .slice _ _ _, .slice _ _ _, .slice _ _ _]) rfl rfl rfl rfl rfl ?_
        refine dw_pure (i := 1) rfl (by decide +kernel) (pv_move (v := .pointer _) rfl) ?_
        refine dw_load (i := 2) rfl (by decide +kernel) ?_
        refine op_loadPA 2 (vs := [.slice _ _ _, .slice _ _ _, .slice _ _ _]) rfl rfl rfl rfl rfl ?_
        refine dw_eff (i := 3) rfl (by decide +kernel) ?_
        refine op_fnMM [] [_] [_, _, _, _, _, _, _] (vs := [.pointer _, .agg #[.slice _ _ _, .slice _ _ _, .slice _ _ _]]) rfl rfl rfl ((SeenOf_ok b y ht.length dt.length (by omega) (by omega) fs (by omega) (by omega) HA DA FA hc dc fc m3 (R3.ext (Ext.trans (Ext.trans (Ext.trans (Ext.trans (Ext.trans E4 E_i) M0) M1) M2) M3)))) ?_
        rintro _ g5 _ G5 ⟨y5, sr, rfl, rfl, sr1⟩
        refine ⟨ext_wlm G5 _, ?_⟩
        refine dw_norm [_, _, _, _, _, _, _, _] rfl ?_
        obtain ⟨T2, B2'⟩ := with_T T1 B1 sr1
        have C2 : CheckS (withS x1 sr) := SeasonT.checkS T2 (by omega) (by omega) (by omega)
        have rl1 := T1.rl
        have wf := with_fine C1 (r := sr) (by omega) (C2.r sr (List.mem_append_right _ (List.mem_singleton.2 rfl)) |> fun q => checkSeen_iff.2 (checkSeen_iff.1 q)) (may_T T2 (by omega))
        have x1r : x1.reports.length = s.reports.length := by rw [hx1]
        have HW := With_ok x1 (small_of C1) sr (some ⟨bH, 0, none⟩) (some ⟨bD, 0, none⟩) B2 B3 capH capD d2 d3 g5 (R1x.ext G5)
        rw [wf.1, wf.2, v1] at HW
        refine dw_last (i := 4) rfl (by decide +kernel) (by decide +kernel) ?_
        refine op_fn (caps := []) (vs := [.agg #[.slice _ _ _, .slice _ _ _, .slice _ _ _, .slice _ _ _], .agg #[.int .i64 _, .int .i64 _, .bool _]]) rfl rfl rfl (HW) ?_
        rintro _ g6 G6 ⟨_, rfl, Y0, Y1, Y2, Y3, y0, y1, y2, y3, rfl, RY⟩
        have hwr : (!decide (((withS x1 sr).reports.length : Int) = (s.reports.length : Int) + 1)) = false := by
          have : (withS x1 sr).reports.length = s.reports.length + 1 := by show (x1.reports ++ [sr]).length = _; rw [List.length_append, x1r]; rfl
          rw [decide_eq_true (by omega)]; rfl
        refine dw_pure (i := 5) rfl (by decide +kernel) (pv_move (v := .tuple #[.agg #[.slice _ _ _, .slice _ _ _, .slice _ _ _, .slice _ _ _], .int .i64 _]) rfl) ?_
        refine dw_pure (i := 6) rfl (by decide +kernel) (pv_of (v := .agg #[.slice _ _ _, .slice _ _ _, .slice _ _ _, .slice _ _ _]) rfl) ?_
        refine dw_pure (i := 7) rfl (by decide +kernel) (pv_of (v := .int .i64 _) rfl) ?_
        refine dw_eff (i := 8) rfl (by decide +kernel) ?_
        refine op_alloc (cs := [_, _, _, _]) rfl rfl fun b8 hb8 => ?_
        refine ⟨ext_newM hb8 _, ?_⟩
        refine dw_norm [_, _, _, _, _, _, _, _, _] rfl ?_
        refine dw_last (i := 9) rfl (by decide +kernel) (by decide +kernel) ?_
        refine op_storeP 8 (v := .agg #[.slice _ _ _, .slice _ _ _, .slice _ _ _, .slice _ _ _]) (vs := [_, _, _, _]) (c' := [_, _, _, _]) rfl rfl rfl rfl rfl rfl rfl rfl rfl ?_
        refine dw_norm [_, _, _, _, _, _, _, _, _] rfl ?_
        refine dw_pure (i := 10) rfl (by decide +kernel) (pv_assign (v := .int .i64 _) rfl) ?_
        refine dw_end rfl ?_
        refine xp_seq ?_
        refine xp_seq ?_
        refine xp_region rfl ?_
        refine op_pure (pv_move (v := .int .i64 _) rfl) ?_
        refine op_pure (pv_of (v := .bool _) rfl) ?_
        refine op_pure (pv_move (v := .bool _) rfl) ?_
        refine guard_yes rfl rfl ?_
        refine op_pure (pv_fieldAddr rfl rfl rfl rfl 3 rfl) ?_
        refine guard_yes rfl rfl ?_
        refine op_loadP 8 (v := .slice _ _ _) rfl rfl rfl rfl ?_
        refine guard_yes rfl rfl ?_
        refine op_pure (pv_len rfl rfl) ?_
        refine guard_yes rfl rfl ?_
        refine op_pure (pv_fieldAddr rfl rfl rfl rfl 3 rfl) ?_
        refine guard_yes rfl rfl ?_
        refine op_loadP 7 (v := .slice _ _ _) rfl rfl rfl rfl ?_
        refine guard_yes rfl rfl ?_
        refine op_pure (pv_len rfl rfl) ?_
        refine guard_yes rfl rfl ?_
        refine op_pure (pv_arith rfl (by omega)) ?_
        refine guard_yes rfl rfl ?_
        refine op_pure (pv_of (v := .bool _) rfl) ?_
        refine op_pure (pv_pickF rfl rfl (v := .bool _) rfl) ?_
        refine xp_condF rfl (hwr) ?_
        refine xp_skip ?_
        refine xp_region rfl ?_
        refine op_loadPA 8 (vs := [.slice _ _ _, .slice _ _ _, .slice _ _ _, .slice _ _ _]) rfl rfl rfl rfl rfl ?_
        refine op_storeP 7 (v := .agg #[.slice _ _ _, .slice _ _ _, .slice _ _ _, .slice _ _ _]) (vs := [_, _, _, _]) (c' := [_, _, _, _]) rfl rfl rfl rfl rfl rfl rfl rfl rfl ?_
        refine wp_norm [_, _, _, _, _, _, _, _, _] rfl ?_
        refine ⟨⟨y5, withS x1 sr, Y0, Y1, Y2, Y3, y0, y1, y2, y3⟩, trivial, rfl, rfl, (Ext.trans G5 G6), fun h3 E3 => ⟨RY.ext E3, B2', T2⟩, ?_⟩
        repeat (first | exact off_refl _ _ | exact off_base _ _ _ | refine off_upd (by decide) ?_ | refine off_updL rfl ?_ | refine off_mix rfl ?_)
      · skip
        refine xp_skip ?_
        refine ⟨⟨y, x1, some ⟨bH, 0, none⟩, some ⟨bD, 0, none⟩, B2, B3, capH, capD, d2, d3⟩, trivial, rfl, by rw [hx1, ← lq1, ← lq2]; rfl, (Ext.refl _), fun h3 E3 => ⟨R1x.ext E3, B1, ⟨T1.w1, T1.ww, T1.dl, T1.hn, T1.dn, T1.hb, T1.db, T1.jl, T1.js, Nat.le_succ_of_le T1.rl, T1.rs⟩⟩, ?_⟩
        repeat (first | exact off_refl _ _ | exact off_base _ _ _ | refine off_upd (by decide) ?_ | refine off_updL rfl ?_ | refine off_mix rfl ?_)
    · rintro z T2 h_z E_z J_z
      refine goes_norm [_, _, _, _, _, _, _, _] rfl ?_
      obtain ⟨JR, JB, JT⟩ := J_z
      obtain ⟨y, xs, X0, X1, X2, X3, k0, k1, k2, k3⟩ := z
      dsimp only at JR JB JT ⊢
      have CX : CheckS xs := SeasonT.checkS JT (by omega) (by omega) (by omega)
      have mayx : mayM xs = true := may_T JT (by omega)
      have xj : xs.joints.length = s.joints.length := by rw [JB.js]
      have xh : xs.heats.length = s.heats.length := JB.hl
      obtain ⟨F, hF, hfate⟩ := true_fate JT (by omega) (by omega)
      refine xp_seq ?_
      refine xp_region rfl ?_
      refine op_pure (pv_move (v := .pointer _) rfl) ?_
      refine op_pure (pv_fieldAddr rfl rfl rfl rfl 0 rfl) ?_
      refine op_loadP 1 (v := .slice _ _ _) rfl rfl rfl rfl ?_
      refine op_pure (pv_len rfl rfl) ?_
      refine op_pure (pv_arith rfl (by omega)) ?_
      refine op_fnMM [] [_] [_, _, _, _, _, _, _] (vs := [.pointer _, .int .i64 _]) rfl rfl rfl ((Upto_ok b y (s.heats.length - 1) (by omega) h_z)) ?_
      rintro _ g5 _ G5 ⟨y5, u', rfl, rfl, u1, u2⟩
      refine wp_norm [_, _, _, _, _, _, _, _] rfl ?_
      obtain ⟨u, rfl⟩ : ∃ u : Nat, u' = u := ⟨u'.toNat, by omega⟩
      have hu : u < s.heats.length := by omega
      have so1 := sound_of C hmay hu
      have so2 := sound_of CX mayx (w := u) (by omega)
      have sw := JB.sound CX C u
      obtain ⟨wv, hwv⟩ : ∃ wv, (List.range s.joints.length).map (firstM s) = wv := ⟨_, rfl⟩
      obtain ⟨wu, hwu⟩ : ∃ wu, (List.range s.joints.length).map (firstM xs) = wu := ⟨_, rfl⟩
      have lwv : wv.length = s.joints.length := by rw [← hwv]; simp
      have lwu : wu.length = s.joints.length := by rw [← hwu]; simp
      have o1 := first_of C hmay
      have o2 := first_of CX mayx
      rw [hwv] at o1
      rw [xj, hwu] at o2
      refine op_pure (pv_assign (v := .int .i64 _) rfl) ?_
      refine xp_seq ?_
      refine xp_region rfl ?_
      refine op_loadPA 1 (vs := [.slice _ _ _, .slice _ _ _, .slice _ _ _, .slice _ _ _]) rfl rfl rfl rfl rfl ?_
      refine op_pure (pv_move (v := .int .i64 _) rfl) ?_
      have H1 := Sound_ok s Sm u A0 A1 A2 A3 c0 c1 c2 c3 g5 (RS.ext (Ext.trans (Ext.trans (Ext.trans (Ext.trans (Ext.trans (Ext.trans (Ext.trans E4 E_i) M0) M1) M2) M3) E_z) G5))
      rw [so1.1, so1.2] at H1
      refine op_fn (caps := []) (vs := [.agg #[.slice _ _ _, .slice _ _ _, .slice _ _ _, .slice _ _ _], .int .i64 _]) rfl rfl rfl (H1) ?_
      rintro _ g6 G6 rfl
      refine op_pure (pv_move (v := .tuple #[.agg #[.int .i64 _, .int .i64 _], .int .i64 _]) rfl) ?_
      refine op_pure (pv_of (v := .agg #[.int .i64 _, .int .i64 _]) rfl) ?_
      refine op_pure (pv_of (v := .int .i64 _) rfl) ?_
      refine op_alloc (cs := [_, _]) rfl rfl fun b11 hb11 => ?_
      refine wp_norm [_, _, _, _, _, _, _, _, _] rfl ?_
      refine op_storeP 8 (v := .agg #[.int .i64 _, .int .i64 _]) (vs := [_, _]) (c' := [_, _]) rfl rfl rfl rfl rfl rfl rfl rfl rfl ?_
      refine wp_norm [_, _, _, _, _, _, _, _, _] rfl ?_
      refine op_pure (pv_assign (v := .int .i64 _) rfl) ?_
      refine xp_seq ?_
      refine xp_region rfl ?_
      refine op_loadPA 7 (vs := [.slice _ _ _, .slice _ _ _, .slice _ _ _, .slice _ _ _]) rfl rfl rfl rfl rfl ?_
      refine op_pure (pv_move (v := .int .i64 _) rfl) ?_
      have H2 := Sound_ok xs (small_of CX) u X0 X1 X2 X3 k0 k1 k2 k3 g6 (JR.ext (Ext.trans G5 G6))
      rw [so2.1, so2.2] at H2
      refine op_fn (caps := []) (vs := [.agg #[.slice _ _ _, .slice _ _ _, .slice _ _ _, .slice _ _ _], .int .i64 _]) rfl rfl rfl (H2) ?_
      rintro _ g7 G7 rfl
      refine op_pure (pv_move (v := .tuple #[.agg #[.int .i64 _, .int .i64 _], .int .i64 _]) rfl) ?_
      refine op_pure (pv_of (v := .agg #[.int .i64 _, .int .i64 _]) rfl) ?_
      refine op_pure (pv_of (v := .int .i64 _) rfl) ?_
      refine op_alloc (cs := [_, _]) rfl rfl fun b13 hb13 => ?_
      refine wp_norm [_, _, _, _, _, _, _, _, _, _] rfl ?_
      refine op_storeP 9 (v := .agg #[.int .i64 _, .int .i64 _]) (vs := [_, _]) (c' := [_, _]) rfl rfl rfl rfl rfl rfl rfl rfl rfl ?_
      refine wp_norm [_, _, _, _, _, _, _, _, _, _] rfl ?_
      refine op_pure (pv_assign (v := .int .i64 _) rfl) ?_
      refine xp_seq ?_
      refine xp_region rfl ?_
      refine op_loadPA 1 (vs := [.slice _ _ _, .slice _ _ _, .slice _ _ _, .slice _ _ _]) rfl rfl rfl rfl rfl ?_
      have H3 := First_ok s Sm A0 A1 A2 A3 c0 c1 c2 c3 g7 (RS.ext (Ext.trans (Ext.trans (Ext.trans (Ext.trans (Ext.trans (Ext.trans (Ext.trans (Ext.trans (Ext.trans E4 E_i) M0) M1) M2) M3) E_z) G5) G6) G7))
      rw [o1.1, o1.2] at H3
      refine op_fn (caps := []) (vs := [.agg #[.slice _ _ _, .slice _ _ _, .slice _ _ _, .slice _ _ _]]) rfl rfl rfl (H3) ?_
      rintro _ g8 G8 ⟨_, rfl, VA, vc, rfl, VR⟩
      refine op_pure (pv_move (v := .tuple #[.slice _ _ _, .int .i64 _]) rfl) ?_
      refine op_pure (pv_of (v := .slice _ _ _) rfl) ?_
      refine op_pure (pv_of (v := .int .i64 _) rfl) ?_
      refine op_pure (pv_assign (v := .slice _ _ _) rfl) ?_
      refine op_pure (pv_assign (v := .int .i64 _) rfl) ?_
      refine xp_seq ?_
      refine xp_region rfl ?_
      refine op_loadPA 7 (vs := [.slice _ _ _, .slice _ _ _, .slice _ _ _, .slice _ _ _]) rfl rfl rfl rfl rfl ?_
      have H4 := First_ok xs (small_of CX) X0 X1 X2 X3 k0 k1 k2 k3 g8 (JR.ext (Ext.trans (Ext.trans (Ext.trans G5 G6) G7) G8))
      rw [o2.1, o2.2] at H4
      refine op_fn (caps := []) (vs := [.agg #[.slice _ _ _, .slice _ _ _, .slice _ _ _, .slice _ _ _]]) rfl rfl rfl (H4) ?_
      rintro _ g9 G9 ⟨_, rfl, UA, uc, rfl, UR⟩
      have g28 : (!decide ((wv.length : Int) = (s.joints.length : Int))) = false := by rw [decide_eq_true (by omega)]; rfl
      have g33 : (!decide ((wu.length : Int) = (wv.length : Int))) = false := by rw [decide_eq_true (by omega)]; rfl
      refine op_pure (pv_move (v := .tuple #[.slice _ _ _, .int .i64 _]) rfl) ?_
      refine op_pure (pv_of (v := .slice _ _ _) rfl) ?_
      refine op_pure (pv_of (v := .int .i64 _) rfl) ?_
      refine op_pure (pv_assign (v := .slice _ _ _) rfl) ?_
      refine op_pure (pv_assign (v := .int .i64 _) rfl) ?_
      refine xp_seq ?_
      refine xp_seq ?_
      refine xp_region rfl ?_
      refine op_pure (pv_move (v := .int .i64 _) rfl) ?_
      refine op_pure (pv_of (v := .bool _) rfl) ?_
      refine op_pure (pv_move (v := .bool _) rfl) ?_
      refine guard_yes rfl rfl ?_
      refine op_pure (pv_move (v := .int .i64 _) rfl) ?_
      refine guard_yes rfl rfl ?_
      refine op_pure (pv_of (v := .bool _) rfl) ?_
      refine op_pure (pv_pickF rfl rfl (v := .bool _) rfl) ?_
      refine op_pure (pv_move (v := .bool _) rfl) ?_
      refine guard_yes rfl rfl ?_
      refine op_pure (pv_move (v := .int .i64 _) rfl) ?_
      refine guard_yes rfl rfl ?_
      refine op_pure (pv_of (v := .bool _) rfl) ?_
      refine op_pure (pv_pickF rfl rfl (v := .bool _) rfl) ?_
      refine op_pure (pv_move (v := .bool _) rfl) ?_
      refine guard_yes rfl rfl ?_
      refine op_pure (pv_move (v := .int .i64 _) rfl) ?_
      refine guard_yes rfl rfl ?_
      refine op_pure (pv_of (v := .bool _) rfl) ?_
      refine op_pure (pv_pickF rfl rfl (v := .bool _) rfl) ?_
      refine op_pure (pv_move (v := .bool _) rfl) ?_
      refine guard_yes rfl rfl ?_
      refine op_loadPA 8 (vs := [.int .i64 _, .int .i64 _]) rfl rfl rfl rfl rfl ?_
      refine guard_yes rfl rfl ?_
      refine op_loadPA 9 (vs := [.int .i64 _, .int .i64 _]) rfl rfl rfl rfl rfl ?_
      refine guard_yes rfl rfl ?_
      have HW := Wider_ok ⟨(soundLo s u (allFates s) : Nat), (soundHi s u (allFates s) : Nat)⟩ ⟨(soundLo xs u (allFates xs) : Nat), (soundHi xs u (allFates xs) : Nat)⟩ g9
      dsimp only at HW
      rw [show (decide ((soundLo s u (allFates s) : Int) ≤ (soundLo xs u (allFates xs) : Nat)) && decide (((soundHi xs u (allFates xs) : Nat) : Int) ≤ (soundHi s u (allFates s) : Nat))) = true from by rw [Bool.and_eq_true, decide_eq_true_eq, decide_eq_true_eq]; omega] at HW
      refine op_fn (caps := []) (vs := [.agg #[.int .i64 _, .int .i64 _], .agg #[.int .i64 _, .int .i64 _]]) rfl rfl rfl (HW) ?_
      rintro _ g10 G10 rfl
      refine guard_yes rfl rfl ?_
      refine op_pure (pv_of (v := .bool _) rfl) ?_
      refine op_pure (pv_pickF rfl rfl (v := .bool _) rfl) ?_
      refine op_pure (pv_move (v := .bool _) rfl) ?_
      refine guard_yes rfl rfl ?_
      refine op_pure (pv_move (v := .slice _ _ _) rfl) ?_
      refine guard_yes rfl rfl ?_
      refine op_pure (pv_len rfl rfl) ?_
      refine guard_yes rfl rfl ?_
      refine op_pure (pv_fieldAddr rfl rfl rfl rfl 2 rfl) ?_
      refine guard_yes rfl rfl ?_
      refine op_loadP 1 (v := .slice _ _ _) rfl rfl rfl rfl ?_
      refine guard_yes rfl rfl ?_
      refine op_pure (pv_len rfl rfl) ?_
      refine guard_yes rfl rfl ?_
      refine op_pure (pv_of (v := .bool _) rfl) ?_
      refine op_pure (pv_pickF rfl rfl (v := .bool _) rfl) ?_
      refine op_pure (pv_move (v := .bool _) rfl) ?_
      refine guard_yes rfl g28 ?_
      refine op_pure (pv_move (v := .slice _ _ _) rfl) ?_
      refine guard_yes rfl g28 ?_
      refine op_pure (pv_len rfl rfl) ?_
      refine guard_yes rfl g28 ?_
      refine op_pure (pv_move (v := .slice _ _ _) rfl) ?_
      refine guard_yes rfl g28 ?_
      refine op_pure (pv_len rfl rfl) ?_
      refine guard_yes rfl g28 ?_
      refine op_pure (pv_of (v := .bool _) rfl) ?_
      refine op_pure (pv_pickF rfl g28 (v := .bool _) rfl) ?_
      refine xp_condF rfl (g33) ?_
      refine xp_skip ?_
      refine xp_seq ?_
      refine xp_seq ?_
      refine xp_region rfl ?_
      refine op_pure (pv_assign (v := .int .i64 _) rfl) ?_
      refine xp_block ?_
      refine xp_loopB [2, 19, 20, 21, 22, 23, 24, 25, 26, 27, 28, 29, 166, 167, 168, 169, 170, 171, 172, 173, 174, 175, 176, 177, 178, 179, 180, 181, 182, 183, 184, 185, 186, 187, 188, 189, 190, 191, 192, 193, 194, 195, 196, 197, 198, 199, 200, 201, 202, 203, 204, 205, 206, 207, 208, 209, 210, 211, 212, 213, 214, 215, 216, 217, 218, 219, 220, 221, 222, 223, 224, 225, 226, 227, 228, 229, 230, 231, 232, 233, 234, 235, 236, 237, 238, 239, 240, 241, 242, 243, 244, 245, 246, 247, 248, 249, 250, 251, 252, 253, 254, 255, 256, 257, 258, 259, 260, 261, 262, 263, 264, 265, 266, 267, 268, 269, 270] 10 (α := Nat) (fun j => [(19, .int .i64 j)]) (fun j => _) (fun j h_j => j ≤ s.joints.length) (fun j => s.joints.length - j) (0) ⟨rfl, trivial⟩ (rfl) (Nat.zero_le _) ?_
      rintro j T3 h_j E_j J_j
      refine goes_norm [_, _, _, _, _, _, _, _, _, _] rfl ?_
      refine xp_seq ?_
      refine xp_seq ?_
      refine xp_region rfl ?_
      refine op_pure (pv_move (v := .int .i64 _) rfl) ?_
      refine op_pure (pv_move (v := .slice _ _ _) rfl) ?_
      refine op_pure (pv_len rfl rfl) ?_
      refine op_pure (pv_of (v := .bool _) rfl) ?_
      refine xp_cond rfl (fun hj => ?_) (fun hj => ?_)
      · skip
        have hjn : j < s.joints.length := by have := ltI hj; omega
        have fo1 := fails_of C hmay hjn
        have fo2 := fails_of CX mayx (j := j) (by omega)
        have co1 := causes_of C hmay hjn
        have co2 := causes_of CX mayx (j := j) (by omega)
        obtain ⟨qs, hqs⟩ : ∃ qs, (List.range 3).map (causeM s j) = qs := ⟨_, rfl⟩
        obtain ⟨qx, hqx⟩ : ∃ qx, (List.range 3).map (causeM xs j) = qx := ⟨_, rfl⟩
        have lqs : qs.length = 3 := by rw [← hqs]; simp
        have lqx : qx.length = 3 := by rw [← hqx]; simp
        rw [hqs] at co1
        rw [hqx] at co2
        have hjv : j < wv.length := by omega
        have hju : j < wu.length := by omega
        have ev : wv[j] = firstM s j := by simp [← hwv]
        have eu : wu[j] = firstM xs j := by simp [← hwu]
        obtain ⟨gV, oV, hVA, hcV⟩ := (VR.ext (Ext.trans (Ext.trans G9 G10) E_j)).at (by omega) hjv
        obtain ⟨gU, oU, hUA, hcU⟩ := (UR.ext (Ext.trans G10 E_j)).at (by omega) hju
        rw [ev] at hcV
        rw [eu] at hcU
        have ft := first_true (s := xs) (by omega) hF hfate (j := j) (by omega)
        have bf := JB.first CX C mayx (j := j)
        have hor : (allFates xs).any (isF xs j) = true ∨ (allFates xs).any (noF xs j) = true := by
          cases hT : isT fs xs.heats.length j xs.joints.length with
          | true => exact .inl (ft.1 hT)
          | false => exact .inr (ft.2 hT)
        refine xp_skip ?_
        refine xp_seq ?_
        refine xp_block ?_
        refine xp_seq ?_
        refine xp_region rfl ?_
        refine op_loadPA 1 (vs := [.slice _ _ _, .slice _ _ _, .slice _ _ _, .slice _ _ _]) rfl rfl rfl rfl rfl ?_
        refine op_pure (pv_move (v := .int .i64 _) rfl) ?_
        have H5 := Fails_ok s Sm j A0 A1 A2 A3 c0 c1 c2 c3 h_j (RS.ext (Ext.trans (Ext.trans (Ext.trans (Ext.trans (Ext.trans (Ext.trans (Ext.trans (Ext.trans (Ext.trans (Ext.trans (Ext.trans (Ext.trans (Ext.trans E4 E_i) M0) M1) M2) M3) E_z) G5) G6) G7) G8) G9) G10) E_j))
        rw [fo1.1, fo1.2] at H5
        refine op_fn (caps := []) (vs := [.agg #[.slice _ _ _, .slice _ _ _, .slice _ _ _, .slice _ _ _], .int .i64 _]) rfl rfl rfl (H5) ?_
        rintro _ f1 Q1 ⟨_, rfl, LA, lc, rfl, LR⟩
        refine op_pure (pv_move (v := .tuple #[.slice _ _ _, .int .i64 _]) rfl) ?_
        refine op_pure (pv_of (v := .slice _ _ _) rfl) ?_
        refine op_pure (pv_of (v := .int .i64 _) rfl) ?_
        refine op_pure (pv_assign (v := .slice _ _ _) rfl) ?_
        refine op_pure (pv_assign (v := .int .i64 _) rfl) ?_
        refine xp_seq ?_
        refine xp_region rfl ?_
        refine op_loadPA 7 (vs := [.slice _ _ _, .slice _ _ _, .slice _ _ _, .slice _ _ _]) rfl rfl rfl rfl rfl ?_
        refine op_pure (pv_move (v := .int .i64 _) rfl) ?_
        have H6 := Fails_ok xs (small_of CX) j X0 X1 X2 X3 k0 k1 k2 k3 f1 (JR.ext (Ext.trans (Ext.trans (Ext.trans (Ext.trans (Ext.trans (Ext.trans (Ext.trans G5 G6) G7) G8) G9) G10) E_j) Q1))
        rw [fo2.1, fo2.2] at H6
        refine op_fn (caps := []) (vs := [.agg #[.slice _ _ _, .slice _ _ _, .slice _ _ _, .slice _ _ _], .int .i64 _]) rfl rfl rfl (H6) ?_
        rintro _ f2 Q2 ⟨_, rfl, MA, mc, rfl, MR⟩
        refine op_pure (pv_move (v := .tuple #[.slice _ _ _, .int .i64 _]) rfl) ?_
        refine op_pure (pv_of (v := .slice _ _ _) rfl) ?_
        refine op_pure (pv_of (v := .int .i64 _) rfl) ?_
        refine op_pure (pv_assign (v := .slice _ _ _) rfl) ?_
        refine op_pure (pv_assign (v := .int .i64 _) rfl) ?_
        refine xp_seq ?_
        refine xp_region rfl ?_
        refine op_loadPA 1 (vs := [.slice _ _ _, .slice _ _ _, .slice _ _ _, .slice _ _ _]) rfl rfl rfl rfl rfl ?_
        refine op_pure (pv_move (v := .int .i64 _) rfl) ?_
        have H7 := Causes_ok s Sm j A0 A1 A2 A3 c0 c1 c2 c3 f2 (RS.ext (Ext.trans (Ext.trans (Ext.trans (Ext.trans (Ext.trans (Ext.trans (Ext.trans (Ext.trans (Ext.trans (Ext.trans (Ext.trans (Ext.trans (Ext.trans (Ext.trans (Ext.trans E4 E_i) M0) M1) M2) M3) E_z) G5) G6) G7) G8) G9) G10) E_j) Q1) Q2))
        rw [fo1.1, co1] at H7
        refine op_fn (caps := []) (vs := [.agg #[.slice _ _ _, .slice _ _ _, .slice _ _ _, .slice _ _ _], .int .i64 _]) rfl rfl rfl (H7) ?_
        rintro _ f3 Q3 ⟨_, rfl, CA, cc, rfl, CR⟩
        refine op_pure (pv_move (v := .tuple #[.slice _ _ _, .int .i64 _]) rfl) ?_
        refine op_pure (pv_of (v := .slice _ _ _) rfl) ?_
        refine op_pure (pv_of (v := .int .i64 _) rfl) ?_
        refine op_pure (pv_assign (v := .slice _ _ _) rfl) ?_
        refine op_pure (pv_assign (v := .int .i64 _) rfl) ?_
        refine xp_seq ?_
        refine xp_region rfl ?_
        refine op_loadPA 7 (vs := [.slice _ _ _, .slice _ _ _, .slice _ _ _, .slice _ _ _]) rfl rfl rfl rfl rfl ?_
        refine op_pure (pv_move (v := .int .i64 _) rfl) ?_
        have H8 := Causes_ok xs (small_of CX) j X0 X1 X2 X3 k0 k1 k2 k3 f3 (JR.ext (Ext.trans (Ext.trans (Ext.trans (Ext.trans (Ext.trans (Ext.trans (Ext.trans (Ext.trans (Ext.trans G5 G6) G7) G8) G9) G10) E_j) Q1) Q2) Q3))
        rw [fo2.1, co2] at H8
        refine op_fn (caps := []) (vs := [.agg #[.slice _ _ _, .slice _ _ _, .slice _ _ _, .slice _ _ _], .int .i64 _]) rfl rfl rfl (H8) ?_
        rintro _ f4 Q4 ⟨_, rfl, DA', dc', rfl, DR⟩
        have g19 : (!decide ((qs.length : Int) = 3)) = false := by rw [lqs]; rfl
        have g24 : (!decide ((qx.length : Int) = 3)) = false := by rw [lqx]; rfl
        refine op_pure (pv_move (v := .tuple #[.slice _ _ _, .int .i64 _]) rfl) ?_
        refine op_pure (pv_of (v := .slice _ _ _) rfl) ?_
        refine op_pure (pv_of (v := .int .i64 _) rfl) ?_
        refine op_pure (pv_assign (v := .slice _ _ _) rfl) ?_
        refine op_pure (pv_assign (v := .int .i64 _) rfl) ?_
        refine xp_cutB [2, 196, 197, 198, 199, 200, 201, 202, 203, 204, 205, 206, 207, 208, 209, 210, 211, 212, 213, 214, 215, 216, 217, 218, 219, 220, 221, 222, 223, 224, 225, 226, 227, 228, 229, 230, 231, 232, 233, 234, 235, 236, 237] 10 (α := Unit) (fun k => []) (fun k L => L) (fun k h_k => True) ?_ ?_
        · skip
          by_cases hv : firstM s j = 3
          · skip
            have hv' : (!decide (firstM s j = 3)) = false := by rw [decide_eq_true hv]; rfl
            refine xp_seq ?_
            refine xp_dw [] rfl rfl rfl ?_
            refine dw_pure (i := 0) rfl (by decide +kernel) (pv_move (v := .int .i64 _) rfl) ?_
            refine dw_pure (i := 1) rfl (by decide +kernel) (pv_of (v := .bool _) rfl) ?_
            refine dw_pure (i := 2) rfl (by decide +kernel) (pv_move (v := .bool _) rfl) ?_
            refine dw_pureG (i := 3) rfl (by decide +kernel) rfl rfl (pv_move (v := .int .i64 _) rfl) ?_
            refine dw_pureG (i := 4) rfl (by decide +kernel) rfl rfl (pv_of (v := .bool _) rfl) ?_
            refine dw_pure (i := 5) rfl (by decide +kernel) (pv_pickF rfl rfl (v := .bool _) rfl) ?_
            refine dw_pure (i := 6) rfl (by decide +kernel) (pv_move (v := .bool _) rfl) ?_
            refine dw_pureG (i := 7) rfl (by decide +kernel) rfl rfl (pv_move (v := .int .i64 _) rfl) ?_
            refine dw_pureG (i := 8) rfl (by decide +kernel) rfl rfl (pv_of (v := .bool _) rfl) ?_
            refine dw_pure (i := 9) rfl (by decide +kernel) (pv_pickF rfl rfl (v := .bool _) rfl) ?_
            refine dw_pure (i := 10) rfl (by decide +kernel) (pv_move (v := .bool _) rfl) ?_
            refine dw_pureG (i := 11) rfl (by decide +kernel) rfl rfl (pv_move (v := .int .i64 _) rfl) ?_
            refine dw_pureG (i := 12) rfl (by decide +kernel) rfl rfl (pv_of (v := .bool _) rfl) ?_
            refine dw_pure (i := 13) rfl (by decide +kernel) (pv_pickF rfl rfl (v := .bool _) rfl) ?_
            refine dw_pure (i := 14) rfl (by decide +kernel) (pv_move (v := .bool _) rfl) ?_
            refine dw_pureG (i := 15) rfl (by decide +kernel) rfl rfl (pv_move (v := .slice _ _ _) rfl) ?_
            refine dw_pureG (i := 16) rfl (by decide +kernel) rfl rfl (pv_len rfl rfl) ?_
            refine dw_pureG (i := 17) rfl (by decide +kernel) rfl rfl (pv_of (v := .bool _) rfl) ?_
            refine dw_pure (i := 18) rfl (by decide +kernel) (pv_pickF rfl rfl (v := .bool _) rfl) ?_
            refine dw_pure (i := 19) rfl (by decide +kernel) (pv_move (v := .bool _) rfl) ?_
            refine dw_pureG (i := 20) rfl (by decide +kernel) rfl g19 (pv_move (v := .slice _ _ _) rfl) ?_
            refine dw_pureG (i := 21) rfl (by decide +kernel) rfl g19 (pv_len rfl rfl) ?_
            refine dw_pureG (i := 22) rfl (by decide +kernel) rfl g19 (pv_of (v := .bool _) rfl) ?_
            refine dw_pure (i := 23) rfl (by decide +kernel) (pv_pickF rfl g19 (v := .bool _) rfl) ?_
            refine dw_pure (i := 24) rfl (by decide +kernel) (pv_move (v := .bool _) rfl) ?_
            refine dw_pureG (i := 25) rfl (by decide +kernel) rfl g24 (pv_move (v := .slice _ _ _) rfl) ?_
            refine dw_pureG (i := 26) rfl (by decide +kernel) rfl g24 (pv_move (v := .int .i64 _) rfl) ?_
            refine dw_pureG (i := 27) rfl (by decide +kernel) rfl g24 (pv_indexE rfl hVA rfl rfl rfl (by omega) (by omega)) ?_
            refine dw_loadG (i := 28) rfl (by decide +kernel) rfl g24 ?_
            refine op_load (v := .int .i64 _) rfl rfl ((hcV.ext (Ext.trans (Ext.trans (Ext.trans Q1 Q2) Q3) Q4)) 0 _ rfl) ?_
            refine dw_pureG (i := 29) rfl (by decide +kernel) rfl g24 (pv_of (v := .bool _) rfl) ?_
            refine dw_pureG (i := 30) rfl (by decide +kernel) rfl g24 (pv_move (v := .bool _) rfl) ?_
            refine dw_skip (i := 31) rfl (by decide +kernel) rfl hv' ?_
            refine dw_skip (i := 32) rfl (by decide +kernel) rfl hv' ?_
            refine dw_skip (i := 33) rfl (by decide +kernel) rfl hv' ?_
            refine dw_skip (i := 34) rfl (by decide +kernel) rfl hv' ?_
            refine dw_skip (i := 35) rfl (by decide +kernel) rfl hv' ?_
            refine dw_skip (i := 36) rfl (by decide +kernel) rfl hv' ?_
            refine dw_skip (i := 37) rfl (by decide +kernel) rfl hv' ?_
            refine dw_skip (i := 38) rfl (by decide +kernel) rfl hv' ?_
            refine dw_skip (i := 39) rfl (by decide +kernel) rfl hv' ?_
            refine dw_pureG (i := 40) rfl (by decide +kernel) rfl g24 (pv_pickF rfl hv' (v := .bool _) rfl) ?_
            refine dw_pure (i := 41) rfl (by decide +kernel) (pv_pickF rfl g24 (v := .bool _) rfl) ?_
            refine dw_end rfl ?_
            refine xp_condF rfl (rfl) ?_
            refine xp_skip ?_
            refine ⟨(), trivial, rfl, rfl, (Ext.refl _), fun h3 E3 => by first | trivial | omega | (refine ⟨?_, ?_⟩ <;> omega), ?_⟩
            repeat (first | exact off_refl _ _ | exact off_base _ _ _ | refine off_upd (by decide) ?_ | refine off_updL rfl ?_ | refine off_mix rfl ?_)
          · skip
            have hv' : (!decide (firstM s j = 3)) = true := by rw [decide_eq_false hv]; rfl
            have heq : firstM xs j = firstM s j := verdict_better bf.1 bf.2 hor hv
            have heq' : (!decide (firstM xs j = firstM s j)) = false := by rw [decide_eq_true heq]; rfl
            refine xp_seq ?_
            refine xp_dw [] rfl rfl rfl ?_
            refine dw_pure (i := 0) rfl (by decide +kernel) (pv_move (v := .int .i64 _) rfl) ?_
            refine dw_pure (i := 1) rfl (by decide +kernel) (pv_of (v := .bool _) rfl) ?_
            refine dw_pure (i := 2) rfl (by decide +kernel) (pv_move (v := .bool _) rfl) ?_
            refine dw_pureG (i := 3) rfl (by decide +kernel) rfl rfl (pv_move (v := .int .i64 _) rfl) ?_
            refine dw_pureG (i := 4) rfl (by decide +kernel) rfl rfl (pv_of (v := .bool _) rfl) ?_
            refine dw_pure (i := 5) rfl (by decide +kernel) (pv_pickF rfl rfl (v := .bool _) rfl) ?_
            refine dw_pure (i := 6) rfl (by decide +kernel) (pv_move (v := .bool _) rfl) ?_
            refine dw_pureG (i := 7) rfl (by decide +kernel) rfl rfl (pv_move (v := .int .i64 _) rfl) ?_
            refine dw_pureG (i := 8) rfl (by decide +kernel) rfl rfl (pv_of (v := .bool _) rfl) ?_
            refine dw_pure (i := 9) rfl (by decide +kernel) (pv_pickF rfl rfl (v := .bool _) rfl) ?_
            refine dw_pure (i := 10) rfl (by decide +kernel) (pv_move (v := .bool _) rfl) ?_
            refine dw_pureG (i := 11) rfl (by decide +kernel) rfl rfl (pv_move (v := .int .i64 _) rfl) ?_
            refine dw_pureG (i := 12) rfl (by decide +kernel) rfl rfl (pv_of (v := .bool _) rfl) ?_
            refine dw_pure (i := 13) rfl (by decide +kernel) (pv_pickF rfl rfl (v := .bool _) rfl) ?_
            refine dw_pure (i := 14) rfl (by decide +kernel) (pv_move (v := .bool _) rfl) ?_
            refine dw_pureG (i := 15) rfl (by decide +kernel) rfl rfl (pv_move (v := .slice _ _ _) rfl) ?_
            refine dw_pureG (i := 16) rfl (by decide +kernel) rfl rfl (pv_len rfl rfl) ?_
            refine dw_pureG (i := 17) rfl (by decide +kernel) rfl rfl (pv_of (v := .bool _) rfl) ?_
            refine dw_pure (i := 18) rfl (by decide +kernel) (pv_pickF rfl rfl (v := .bool _) rfl) ?_
            refine dw_pure (i := 19) rfl (by decide +kernel) (pv_move (v := .bool _) rfl) ?_
            refine dw_pureG (i := 20) rfl (by decide +kernel) rfl g19 (pv_move (v := .slice _ _ _) rfl) ?_
            refine dw_pureG (i := 21) rfl (by decide +kernel) rfl g19 (pv_len rfl rfl) ?_
            refine dw_pureG (i := 22) rfl (by decide +kernel) rfl g19 (pv_of (v := .bool _) rfl) ?_
            refine dw_pure (i := 23) rfl (by decide +kernel) (pv_pickF rfl g19 (v := .bool _) rfl) ?_
            refine dw_pure (i := 24) rfl (by decide +kernel) (pv_move (v := .bool _) rfl) ?_
            refine dw_pureG (i := 25) rfl (by decide +kernel) rfl g24 (pv_move (v := .slice _ _ _) rfl) ?_
            refine dw_pureG (i := 26) rfl (by decide +kernel) rfl g24 (pv_move (v := .int .i64 _) rfl) ?_
            refine dw_pureG (i := 27) rfl (by decide +kernel) rfl g24 (pv_indexE rfl hVA rfl rfl rfl (by omega) (by omega)) ?_
            refine dw_loadG (i := 28) rfl (by decide +kernel) rfl g24 ?_
            refine op_load (v := .int .i64 _) rfl rfl ((hcV.ext (Ext.trans (Ext.trans (Ext.trans Q1 Q2) Q3) Q4)) 0 _ rfl) ?_
            refine dw_pureG (i := 29) rfl (by decide +kernel) rfl g24 (pv_of (v := .bool _) rfl) ?_
            refine dw_pureG (i := 30) rfl (by decide +kernel) rfl g24 (pv_move (v := .bool _) rfl) ?_
            refine dw_pureG (i := 31) rfl (by decide +kernel) rfl hv' (pv_move (v := .slice _ _ _) rfl) ?_
            refine dw_pureG (i := 32) rfl (by decide +kernel) rfl hv' (pv_move (v := .int .i64 _) rfl) ?_
            refine dw_pureG (i := 33) rfl (by decide +kernel) rfl hv' (pv_indexE rfl hUA rfl rfl rfl (by omega) (by omega)) ?_
            refine dw_loadG (i := 34) rfl (by decide +kernel) rfl hv' ?_
            refine op_load (v := .int .i64 _) rfl rfl ((hcU.ext (Ext.trans (Ext.trans (Ext.trans Q1 Q2) Q3) Q4)) 0 _ rfl) ?_
            refine dw_pureG (i := 35) rfl (by decide +kernel) rfl hv' (pv_move (v := .slice _ _ _) rfl) ?_
            refine dw_pureG (i := 36) rfl (by decide +kernel) rfl hv' (pv_move (v := .int .i64 _) rfl) ?_
            refine dw_pureG (i := 37) rfl (by decide +kernel) rfl hv' (pv_indexE rfl hVA rfl rfl rfl (by omega) (by omega)) ?_
            refine dw_loadG (i := 38) rfl (by decide +kernel) rfl hv' ?_
            refine op_load (v := .int .i64 _) rfl rfl ((hcV.ext (Ext.trans (Ext.trans (Ext.trans Q1 Q2) Q3) Q4)) 0 _ rfl) ?_
            refine dw_pureG (i := 39) rfl (by decide +kernel) rfl hv' (pv_of (v := .bool _) rfl) ?_
            refine dw_pureG (i := 40) rfl (by decide +kernel) rfl g24 (pv_pickT rfl hv' (v := .bool _) rfl) ?_
            refine dw_pure (i := 41) rfl (by decide +kernel) (pv_pickF rfl g24 (v := .bool _) rfl) ?_
            refine dw_end rfl ?_
            refine xp_condF rfl (heq') ?_
            refine xp_skip ?_
            refine ⟨(), trivial, rfl, rfl, (Ext.refl _), fun h3 E3 => by first | trivial | omega | (refine ⟨?_, ?_⟩ <;> omega), ?_⟩
            repeat (first | exact off_refl _ _ | exact off_base _ _ _ | refine off_upd (by decide) ?_ | refine off_updL rfl ?_ | refine off_mix rfl ?_)
        · rintro k T4 h_k E_k J_k
          refine goes_norm [_, _, _, _, _, _, _, _, _, _] rfl ?_
          have k7 : (listM (failsM xs j)).length ≤ 7 := listN_len _ _
          have k7s : (listM (failsM s j)).length < 2 ^ 40 := Nat.lt_of_le_of_lt (listN_len _ _) (by decide)
          have hfne : failsM xs j ≠ 0 := fails_ne JT (by omega) (by omega)
          have hflne : flsM xs (kindAt xs j) j ≠ [] := fun e => hfne (by unfold failsM; rw [e]; rfl)
          refine xp_seq ?_
          refine xp_seq ?_
          refine xp_region rfl ?_
          refine op_pure (pv_assign (v := .int .i64 _) rfl) ?_
          refine xp_block ?_
          refine xp_loopB [2, 28, 238, 239, 240, 241, 242, 243, 244, 245, 246, 247, 248, 249, 250] 10 (α := Nat) (fun n => [(28, .int .i64 n)]) (fun n => _) (fun n h_n => n ≤ (listM (failsM xs j)).length) (fun n => (listM (failsM xs j)).length - n) (0) ⟨rfl, trivial⟩ (rfl) (Nat.zero_le _) ?_
          rintro n T5 h_n E_n J_n
          refine goes_norm [_, _, _, _, _, _, _, _, _, _] rfl ?_
          refine xp_seq ?_
          refine xp_seq ?_
          refine xp_region rfl ?_
          refine op_pure (pv_move (v := .int .i64 _) rfl) ?_
          refine op_pure (pv_move (v := .slice _ _ _) rfl) ?_
          refine op_pure (pv_len rfl rfl) ?_
          refine op_pure (pv_of (v := .bool _) rfl) ?_
          refine xp_cond rfl (fun hn => ?_) (fun hn => ?_)
          · skip
            have hnl : n < (listM (failsM xs j)).length := ltI hn
            obtain ⟨gM, oM, hMA, hcM⟩ := (MR.ext (Ext.trans (Ext.trans (Ext.trans Q3 Q4) E_k) E_n)).at (by omega) hnl
            refine xp_skip ?_
            refine xp_seq ?_
            refine xp_block ?_
            refine xp_seq ?_
            refine xp_region rfl ?_
            refine op_pure (pv_move (v := .slice _ _ _) rfl) ?_
            refine op_pure (pv_move (v := .slice _ _ _) rfl) ?_
            refine op_pure (pv_move (v := .int .i64 _) rfl) ?_
            refine op_pure (pv_indexE rfl hMA rfl rfl rfl (by omega) (by omega)) ?_
            refine op_load (v := .int .i64 _) rfl rfl ((hcM) 0 _ rfl) ?_
            refine op_fn (caps := []) (vs := [.slice _ _ _, .int .i64 _]) rfl rfl rfl (place_ok (listM (failsM s j)) (listM (failsM xs j))[n] LA lc h_n (LR.ext (Ext.trans (Ext.trans (Ext.trans (Ext.trans Q2 Q3) Q4) E_k) E_n)) k7s) ?_
            rintro _ f5 Q5 ⟨ip, rfl, hip⟩
            have hmem : (listM (failsM xs j))[n] ∈ listM (failsM s j) := list_sub (fun i hb => JB.fails CX C hb) (List.getElem_mem hnl)
            refine op_pure (pv_of (v := .bool _) rfl) ?_
            refine xp_condF rfl ((decide_eq_false (by have := hip.2 hmem; omega))) ?_
            refine xp_skip ?_
            refine xp_region rfl ?_
            refine op_pure (pv_move (v := .int .i64 _) rfl) ?_
            refine op_pure (pv_arith rfl (by omega)) ?_
            refine op_pure (pv_assign (v := .int .i64 _) rfl) ?_
            refine ⟨n + 1, ⟨rfl, trivial⟩, rfl, rfl, (Ext.trans E_n Q5), fun h3 E3 => hnl, by first | omega | (dsimp only; omega), ?_⟩
            repeat (first | exact off_base _ _ _ | refine off_upd (by decide) ?_ | refine off_updL rfl ?_ | refine off_mix rfl ?_)
          · skip
            refine xp_exit ?_
            refine xp_seq ?_
            refine xp_region rfl ?_
            refine op_pure (pv_assign (v := .int .i64 _) rfl) ?_
            refine xp_block ?_
            refine xp_loopB [2, 29, 251, 252, 253, 254, 255, 256, 257, 258, 259, 260, 261, 262, 263, 264, 265, 266, 267, 268, 269, 270] 10 (α := Nat) (fun q => [(29, .int .i64 q)]) (fun q => _) (fun q h_q => q ≤ 3) (fun q => 3 - q) (0) ⟨rfl, trivial⟩ (rfl) (Nat.zero_le _) ?_
            rintro q T6 h_q E_q J_q
            refine goes_norm [_, _, _, _, _, _, _, _, _, _] rfl ?_
            refine xp_seq ?_
            refine xp_seq ?_
            refine xp_region rfl ?_
            refine op_pure (pv_move (v := .int .i64 _) rfl) ?_
            refine op_pure (pv_of (v := .bool _) rfl) ?_
            refine xp_cond rfl (fun hq => ?_) (fun hq => ?_)
            · skip
              have hq3 : q < 3 := by have := of_decide_eq_true hq; omega
              have hqs' : q < qs.length := by omega
              have hqx' : q < qx.length := by omega
              have es : qs[q] = causeM s j q := by simp [← hqs]
              have ex : qx[q] = causeM xs j q := by simp [← hqx]
              obtain ⟨gC, oC, hCA, hcC⟩ := (CR.ext (Ext.trans (Ext.trans (Ext.trans Q4 E_k) E_n) E_q)).at (by omega) hqs'
              obtain ⟨gD, oD, hDA, hcD⟩ := (DR.ext (Ext.trans (Ext.trans E_k E_n) E_q)).at (by omega) hqx'
              rw [es] at hcC
              rw [ex] at hcD
              by_cases hv : causeM s j q = 3
              · skip
                have hv' : (!decide (causeM s j q = 3)) = false := by rw [decide_eq_true hv]; rfl
                refine xp_skip ?_
                refine xp_seq ?_
                refine xp_block ?_
                refine xp_seq ?_
                refine xp_dw [] rfl rfl rfl ?_
                refine dw_pure (i := 0) rfl (by decide +kernel) (pv_move (v := .slice _ _ _) rfl) ?_
                refine dw_pure (i := 1) rfl (by decide +kernel) (pv_move (v := .int .i64 _) rfl) ?_
                refine dw_pure (i := 2) rfl (by decide +kernel) (pv_indexE rfl hCA rfl rfl rfl (by omega) (by omega)) ?_
                refine dw_load (i := 3) rfl (by decide +kernel) ?_
                refine op_load (v := .int .i64 _) rfl rfl ((hcC) 0 _ rfl) ?_
                refine dw_pure (i := 4) rfl (by decide +kernel) (pv_of (v := .bool _) rfl) ?_
                refine dw_pure (i := 5) rfl (by decide +kernel) (pv_move (v := .bool _) rfl) ?_
                refine dw_skip (i := 6) rfl (by decide +kernel) rfl hv' ?_
                refine dw_skip (i := 7) rfl (by decide +kernel) rfl hv' ?_
                refine dw_skip (i := 8) rfl (by decide +kernel) rfl hv' ?_
                refine dw_skip (i := 9) rfl (by decide +kernel) rfl hv' ?_
                refine dw_skip (i := 10) rfl (by decide +kernel) rfl hv' ?_
                refine dw_skip (i := 11) rfl (by decide +kernel) rfl hv' ?_
                refine dw_skip (i := 12) rfl (by decide +kernel) rfl hv' ?_
                refine dw_skip (i := 13) rfl (by decide +kernel) rfl hv' ?_
                refine dw_skip (i := 14) rfl (by decide +kernel) rfl hv' ?_
                refine dw_pure (i := 15) rfl (by decide +kernel) (pv_pickF rfl hv' (v := .bool _) rfl) ?_
                refine dw_end rfl ?_
                refine xp_condF rfl (rfl) ?_
                refine xp_skip ?_
                refine xp_region rfl ?_
                refine op_pure (pv_move (v := .int .i64 _) rfl) ?_
                refine op_pure (pv_arith rfl (by omega)) ?_
                refine op_pure (pv_assign (v := .int .i64 _) rfl) ?_
                refine ⟨q + 1, ⟨rfl, trivial⟩, rfl, rfl, E_q, fun h3 E3 => by omega, by first | omega | (dsimp only; omega), ?_⟩
                repeat (first | exact off_base _ _ _ | refine off_upd (by decide) ?_ | refine off_updL rfl ?_ | refine off_mix rfl ?_)
              · skip
                have hv' : (!decide (causeM s j q = 3)) = true := by rw [decide_eq_false hv]; rfl
                have heq : causeM xs j q = causeM s j q := verdict_better (JB.cause CX C).1 (JB.cause CX C).2 (any_or hflne _) hv
                have heq' : (!decide (causeM xs j q = causeM s j q)) = false := by rw [decide_eq_true heq]; rfl
                refine xp_skip ?_
                refine xp_seq ?_
                refine xp_block ?_
                refine xp_seq ?_
                refine xp_dw [] rfl rfl rfl ?_
                refine dw_pure (i := 0) rfl (by decide +kernel) (pv_move (v := .slice _ _ _) rfl) ?_
                refine dw_pure (i := 1) rfl (by decide +kernel) (pv_move (v := .int .i64 _) rfl) ?_
                refine dw_pure (i := 2) rfl (by decide +kernel) (pv_indexE rfl hCA rfl rfl rfl (by omega) (by omega)) ?_
                refine dw_load (i := 3) rfl (by decide +kernel) ?_
                refine op_load (v := .int .i64 _) rfl rfl ((hcC) 0 _ rfl) ?_
                refine dw_pure (i := 4) rfl (by decide +kernel) (pv_of (v := .bool _) rfl) ?_
                refine dw_pure (i := 5) rfl (by decide +kernel) (pv_move (v := .bool _) rfl) ?_
                refine dw_pureG (i := 6) rfl (by decide +kernel) rfl hv' (pv_move (v := .slice _ _ _) rfl) ?_
                refine dw_pureG (i := 7) rfl (by decide +kernel) rfl hv' (pv_move (v := .int .i64 _) rfl) ?_
                refine dw_pureG (i := 8) rfl (by decide +kernel) rfl hv' (pv_indexE rfl hDA rfl rfl rfl (by omega) (by omega)) ?_
                refine dw_loadG (i := 9) rfl (by decide +kernel) rfl hv' ?_
                refine op_load (v := .int .i64 _) rfl rfl ((hcD) 0 _ rfl) ?_
                refine dw_pureG (i := 10) rfl (by decide +kernel) rfl hv' (pv_move (v := .slice _ _ _) rfl) ?_
                refine dw_pureG (i := 11) rfl (by decide +kernel) rfl hv' (pv_move (v := .int .i64 _) rfl) ?_
                refine dw_pureG (i := 12) rfl (by decide +kernel) rfl hv' (pv_indexE rfl hCA rfl rfl rfl (by omega) (by omega)) ?_
                refine dw_loadG (i := 13) rfl (by decide +kernel) rfl hv' ?_
                refine op_load (v := .int .i64 _) rfl rfl ((hcC) 0 _ rfl) ?_
                refine dw_pureG (i := 14) rfl (by decide +kernel) rfl hv' (pv_of (v := .bool _) rfl) ?_
                refine dw_pure (i := 15) rfl (by decide +kernel) (pv_pickT rfl hv' (v := .bool _) rfl) ?_
                refine dw_end rfl ?_
                refine xp_condF rfl (heq') ?_
                refine xp_skip ?_
                refine xp_region rfl ?_
                refine op_pure (pv_move (v := .int .i64 _) rfl) ?_
                refine op_pure (pv_arith rfl (by omega)) ?_
                refine op_pure (pv_assign (v := .int .i64 _) rfl) ?_
                refine ⟨q + 1, ⟨rfl, trivial⟩, rfl, rfl, E_q, fun h3 E3 => by omega, by first | omega | (dsimp only; omega), ?_⟩
                repeat (first | exact off_base _ _ _ | refine off_upd (by decide) ?_ | refine off_updL rfl ?_ | refine off_mix rfl ?_)
            · skip
              refine xp_exit ?_
              refine xp_region rfl ?_
              refine op_pure (pv_move (v := .int .i64 _) rfl) ?_
              refine op_pure (pv_arith rfl (by omega)) ?_
              refine op_pure (pv_assign (v := .int .i64 _) rfl) ?_
              refine ⟨j + 1, ⟨rfl, trivial⟩, rfl, rfl, (Ext.trans (Ext.trans (Ext.trans (Ext.trans (Ext.trans (Ext.trans (Ext.trans E_j Q1) Q2) Q3) Q4) E_k) E_n) E_q), fun h3 E3 => by omega, by first | omega | (dsimp only; omega), ?_⟩
              repeat (first | exact off_base _ _ _ | refine off_upd (by decide) ?_ | refine off_updL rfl ?_ | refine off_mix rfl ?_)
      · skip
        refine xp_exit ?_
        refine xp_seq ?_
        refine xp_region rfl ?_
        refine op_fn (caps := []) (vs := []) rfl rfl rfl (warm_ok h_j) ?_
        rintro _ v9 V9 rfl
        refine op_pure (pv_assign (v := .bool _) rfl) ?_
        refine xp_ret ?_
        exact ⟨rfl, fun V => (Ext.trans (Ext.trans (Ext.trans (Ext.trans (Ext.trans (Ext.trans (Ext.trans (Ext.trans (Ext.trans (Ext.trans (Ext.trans (Ext.trans (Ext.trans (Ext.trans (Ext.trans (Ext.trans (Ext.trans E1 E2) E4) E_i) M0) M1) M2) M3) E_z) G5) G6) G7) G8) G9) G10) E_j) V9) (ext_wl V)), rfl⟩
end Go.Proofs.Ytndfkbapoinmkaa
