/- An own logic over the model, its walks and its plain laws, joined of parts Tk CD W36. Conditions: as each theorem states. -/
import Derived.Test.YtndfkbapoinmkaaLa5
import Derived.Test.YtndfkbapoinmkaaLa4
set_option linter.all false
/- Plain: warmer and colder weather. Conditions: as each theorem states. -/
namespace Go.Wx
open Go Go.HL
theorem coldM_pre (y : Sky) (c : Int) (m : Nat) : ∀ d i, i < (coldM y c m).length → (coldM y c (m + d))[i]? = (coldM y c m)[i]?
  | 0, i, _ => rfl
  | d + 1, i, h => by
    have ih := coldM_pre y c m d i h
    have hl : i < (coldM y c (m + d)).length := by
      rw [List.getElem?_eq_getElem h] at ih
      exact (List.getElem?_eq_some_iff.1 ih).1
    rw [← Nat.add_assoc, coldM_succ]
    split
    · rw [List.getElem?_append_left hl, ih]
    · exact ih
theorem coldM_more {x y : Sky} {c : Int} : ∀ n, (∀ w, w < n → y.at w ≤ x.at w) → (coldM x c n).length ≤ (coldM y c n).length
  | 0, _ => Nat.le_refl _
  | n + 1, h => by
    have ih := coldM_more (c := c) n fun w hw => h w (by omega)
    have hn := h n (by omega)
    rw [coldM_succ, coldM_succ]
    split
    · rw [if_pos (by omega)]; simp; exact ih
    · split
      · simp; omega
      · exact ih
theorem when1_le (x : Sky) (n : Nat) (c : Int) (many : Nat) : when1 x n c many ≤ n := by
  unfold when1
  split
  · rename_i h
    by_cases hm : many = 0
    · subst hm
      cases hc : coldM x c n with
      | nil => simp
      | cons z l =>
        obtain ⟨w, e, hw, _⟩ := coldM_mem (x := x) (c := c) (k := n) (z := z) (by rw [hc]; exact List.mem_cons_self ..)
        simp; omega
    · have hi : many - 1 < (coldM x c n).length := by omega
      obtain ⟨w, e, hw, _⟩ := coldM_mem (List.getElem_mem hi)
      rw [List.getD_eq_getElem?_getD, List.getElem?_eq_getElem hi]
      simp only [Option.getD_some]
      omega
  · exact Nat.le_refl _
theorem when1_mono {x y : Sky} {n : Nat} {c : Int} {many : Nat} (hm : 1 ≤ many) (h : ∀ w, w < n → y.at w ≤ x.at w) : when1 y n c many ≤ when1 x n c many := by
  by_cases hx : many ≤ (coldM x c n).length
  · have hi : many - 1 < (coldM x c n).length := by omega
    obtain ⟨w, e, hw, hc⟩ := coldM_mem (List.getElem_mem hi)
    have hget : (coldM x c n)[many - 1]? = some (w : Int) := by rw [List.getElem?_eq_getElem hi, e]
    have h3 := coldM_at x c w n hw hc
    have h4 := pair_inj (coldM_pair _ _ _) hget h3
    have hxl : many ≤ (coldM x c (w + 1)).length := by rw [coldM_succ, if_pos hc]; simp; omega
    have hyl : many ≤ (coldM y c (w + 1)).length := Nat.le_trans hxl (coldM_more (w + 1) fun q hq => h q (by omega))
    have hpre := coldM_pre y c (w + 1) (n - (w + 1)) (many - 1) (by omega)
    rw [show w + 1 + (n - (w + 1)) = n from by omega] at hpre
    have hj : many - 1 < (coldM y c (w + 1)).length := by omega
    obtain ⟨v, e2, hv, _⟩ := coldM_mem (List.getElem_mem hj)
    rw [List.getElem?_eq_getElem hj, e2] at hpre
    have hyn : many ≤ (coldM y c n).length := by have := (List.getElem?_eq_some_iff.1 hpre).1; omega
    have e3 : when1 y n c many = v := by
      unfold when1
      rw [if_pos hyn, List.getD_eq_getElem?_getD, hpre]
      simp
    have e4 : when1 x n c many = w := by
      unfold when1
      rw [if_pos hx, List.getD_eq_getElem?_getD, hget]
      simp
    omega
  · have e4 : when1 x n c many = n := by unfold when1; rw [if_neg hx]
    rw [e4]
    exact when1_le _ _ _ _
theorem when0_mono {x y : Sky} {n : Nat} {h : Int} (hn : n ≤ 6) (hxy : ∀ w, w < n → x.at w ≤ y.at w) : when0 y n h ≤ when0 x n h := by
  obtain ⟨a1, a2, _⟩ := when0_spec x n h hn
  obtain ⟨b1, _, b3⟩ := when0_spec y n h hn
  by_cases hc : when0 x n h < n
  · have := a2 hc
    have := hxy _ hc
    exact b3 _ hc (by omega)
  · omega
theorem when0_never {x : Sky} {n : Nat} {h : Int} (hn : n ≤ 6) (hx : ∀ w, w < n → x.at w < h) : when0 x n h = n := by
  obtain ⟨a1, a2, _⟩ := when0_spec x n h hn
  by_cases hc : when0 x n h < n
  · have := a2 hc; have := hx _ hc; omega
  · omega
theorem when1_never {x : Sky} {n : Nat} {c : Int} {many : Nat} (hm : 1 ≤ many) (hx : ∀ w, w < n → c < x.at w) : when1 x n c many = n := by
  have : coldM x c n = [] := by
    rw [List.eq_nil_iff_forall_not_mem]
    intro z hz
    obtain ⟨w, _, h1, h2⟩ := coldM_mem hz
    have := hx w h1
    omega
  unfold when1
  rw [this, if_neg (by simp; omega)]
theorem week_hot {x y : Sky} {n : Nat} {h c : Int} {many life : Nat} (hn : n ≤ 6) (hm : 1 ≤ many) (hx : ∀ w, w < n → c < x.at w) (hy : ∀ w, w < n → c < y.at w) (hxy : ∀ w, w < n → x.at w ≤ y.at w) : weekM y n h c many life ≤ weekM x n h c many life := by
  have := when0_mono (h := h) hn hxy
  unfold weekM
  rw [when1_never hm hx, when1_never hm hy]
  omega
theorem week_cold {x y : Sky} {n : Nat} {h c : Int} {many life : Nat} (hn : n ≤ 6) (hm : 1 ≤ many) (hx : ∀ w, w < n → x.at w < h) (hy : ∀ w, w < n → y.at w < h) (hxy : ∀ w, w < n → y.at w ≤ x.at w) : weekM y n h c many life ≤ weekM x n h c many life := by
  have := when1_mono (c := c) hm hxy
  unfold weekM
  rw [when0_never hn hx, when0_never hn hy]
  omega
theorem harderS_heats (s : Season) (k a z d : Int) : (harderS s k a z d).heats.length = s.heats.length := by
  unfold harderS
  split
  · rename_i h
    subst h
    show (harderW s 1 a z d).length = _
    unfold harderW weatherM
    rw [if_pos rfl, raisedN_len]
  · rfl
theorem harderS_joints (s : Season) (k a z d : Int) : (harderS s k a z d).joints = s.joints := by unfold harderS; split <;> rfl
theorem harderS_reports (s : Season) (k a z d : Int) : (harderS s k a z d).reports = [] := by unfold harderS; split <;> rfl
theorem harderS_weather (s : Season) {k n : Int} (hk : k = 1 ∨ k = 2) (hn : n = 1 ∨ n = 2) (a z d : Int) : weatherM (harderS s k a z d) n = if n = k then harderW s k a z d else weatherM s n := by
  unfold harderS weatherM
  rcases hk with rfl | rfl <;> rcases hn with rfl | rfl <;> rfl
theorem harder_twice (s : Season) {k : Int} (hk : k = 1 ∨ k = 2) (a z d e : Int) : harderS (harderS s k a z d) k a z e = harderS s k a z (d + e) := by
  have hw : harderW (harderS s k a z d) k a z e = harderW s k a z (d + e) := by
    unfold harderW
    rw [harderS_weather s hk hk, if_pos rfl]
    unfold harderW
    exact raisedN_twice _ _ _ _ _
  rcases hk with rfl | rfl
  · rw [harderS, if_pos rfl, hw]; rfl
  · rw [harderS, if_neg (by decide), hw]; rfl
theorem mem_harderW {s : Season} {k a z d : Int} {r : Rg} (h : r ∈ harderW s k a z d) : ∃ q ∈ weatherM s k, r = upR q d ∨ r = q := by
  obtain ⟨i, hi⟩ := List.mem_iff_getElem?.1 h
  unfold harderW at hi
  rw [raisedN_get] at hi
  cases hq : (weatherM s k)[i]? with
  | none => rw [hq] at hi; cases hi
  | some q =>
    rw [hq] at hi
    refine ⟨q, List.mem_of_getElem? hq, ?_⟩
    simp only [Option.map_some, Option.some.injEq] at hi
    split at hi
    · exact .inl hi.symm
    · exact .inr hi.symm
/-- Weather far from its bounds. -/
def MildW (s : Season) (m : Int) : Prop := ∀ n, ∀ r ∈ weatherM s n, -50 + m ≤ r.mn ∧ r.mx ≤ 100 - m
theorem MildW.harder {s : Season} {m d : Int} (M : MildW s m) {k : Int} (hk : k = 1 ∨ k = 2) (a z : Int) {m' : Int} (h1 : m' + d ≤ m) (h2 : m' - d ≤ m) (h3 : m' ≤ m) : MildW (harderS s k a z d) m' := by
  intro n r hr
  have key : ∀ n, (n = 1 ∨ n = 2) → ∀ r ∈ weatherM (harderS s k a z d) n, -50 + m' ≤ r.mn ∧ r.mx ≤ 100 - m' := by
    intro n hn r hr
    rw [harderS_weather s hk hn] at hr
    split at hr
    · obtain ⟨q, hq, rfl | rfl⟩ := mem_harderW hr
      · have := M k q hq
        simp only [upR]
        omega
      · have := M k r hq; omega
    · have := M n r hr; omega
  by_cases hn : n = 1
  · exact key n (.inl hn) r hr
  · refine key 2 (.inr rfl) r ?_
    unfold weatherM at hr ⊢
    rw [if_neg hn] at hr
    rw [if_neg (by decide)]
    exact hr
theorem harder_check {s : Season} (c : CheckS s) {m d : Int} (M : MildW s m) {k : Int} (hk : k = 1 ∨ k = 2) (a z : Int) (h1 : d ≤ m) (h2 : -d ≤ m) : CheckS (harderS s k a z d) := by
  have hw : ∀ n, (n = 1 ∨ n = 2) → ∀ r ∈ weatherM (harderS s k a z d) n, checkWeatherM r = 0 := by
    have hb : ∀ n, (n = 1 ∨ n = 2) → ∀ r ∈ weatherM s n, checkWeatherM r = 0 := by
      rintro n (rfl | rfl) r hr
      · exact c.h r hr
      · exact c.d r hr
    intro n hn r hr
    rw [harderS_weather s hk hn] at hr
    split at hr
    · rename_i hnk
      obtain ⟨q, hq, rfl | rfl⟩ := mem_harderW hr
      · have h3 := M k q hq
        have h4 := checkWeather_iff.1 (hb k hk q hq)
        refine checkWeather_iff.2 ?_
        simp only [upR]
        omega
      · exact hb k hk r hq
    · exact hb n hn r hr
  have hl := harderS_heats s k a z d
  have hdl : (harderS s k a z d).damps.length = s.damps.length := by
    unfold harderS
    split
    · rfl
    · rename_i h
      show (harderW s k a z d).length = _
      unfold harderW weatherM
      rw [if_neg h, raisedN_len]
  refine ⟨by rw [hl]; exact c.w1, by rw [hl]; exact c.w6, by rw [hl, hdl]; exact c.dl, hw 1 (.inl rfl), hw 2 (.inr rfl), by rw [harderS_joints]; exact c.j3, by rw [harderS_joints]; exact c.j, by rw [harderS_reports]; exact Nat.zero_le _, by rw [harderS_reports]; intro r h; cases h⟩
theorem harder_fine {s : Season} (c : CheckS s) {m d : Int} (M : MildW s m) {k a z : Int} (hk : k = 1 ∨ k = 2) (ha : 0 ≤ a) (haz : a ≤ z) (hz : z < s.heats.length) (h1 : d ≤ m) (h2 : -d ≤ m) (h3 : -150 ≤ d ∧ d ≤ 150) : harderE s k a z d = 0 ∧ harderV s k a z d = harderS s k a z d := by
  have e : harderE s k a z d = 0 := by
    have hany : (harderW s k a z d).any outR = false := by
      rw [Bool.eq_false_iff]
      intro h
      obtain ⟨r, hr, ho⟩ := List.any_eq_true.1 h
      have hcw : checkWeatherM r = 0 := by
        have hc := harder_check c M hk a z h1 h2
        have hw : r ∈ weatherM (harderS s k a z d) k := by rw [harderS_weather s hk hk, if_pos rfl]; exact hr
        rcases hk with rfl | rfl
        · exact hc.h r hw
        · exact hc.d r hw
      have := checkWeather_iff.1 hcw
      unfold outR inM at ho
      simp at ho
      omega
    unfold harderE inM
    rw [if_neg (by rw [c.ok]; decide), if_neg (by simp; omega), if_neg (by simp; omega), if_neg (by simp; omega), if_neg (by omega), if_neg (by simp; omega), hany]
    rfl
  exact ⟨e, by rw [harderV, if_pos e]⟩
/-- Each weather of the one season has one of the other, shifted. -/
theorem shift_to {s : Season} (c : CheckS s) {k n a z d : Int} (hk : k = 1 ∨ k = 2) (hn : n = 1 ∨ n = 2) (ha : 0 ≤ a) (haz : a ≤ z) (hz : z < s.heats.length) {x : Sky} (hx : x ∈ allSkies s n) : ∃ y, y ∈ allSkies (harderS s k a z d) n ∧ ∀ w, w < 6 → y.at w = x.at w + if n = k ∧ a.toNat ≤ w ∧ w < (z + 1).toNat then d else 0 := by
  have hwl : ∀ n, (weatherM s n).length = s.heats.length := by
    intro n; unfold weatherM; split
    · rfl
    · exact c.dl
  have h6 := c.w6
  rw [mem_allSkies (by rw [hwl]; exact h6)] at hx
  have hwl2 : (weatherM (harderS s k a z d) n).length = s.heats.length := by
    rw [harderS_weather s hk hn]
    split
    · unfold harderW; rw [raisedN_len, hwl]
    · exact hwl n
  refine ⟨skyF fun w => x.at w + if n = k ∧ a.toNat ≤ w ∧ w < (z + 1).toNat then d else 0, ?_, fun w hw => skyF_at _ w hw⟩
  rw [mem_allSkies (by rw [hwl2]; exact h6), hwl2]
  constructor
  · intro i r hr
    have hi := (List.getElem?_eq_some_iff.1 hr).1
    rw [hwl2] at hi
    rw [skyF_at _ i (by omega)]
    rw [harderS_weather s hk hn] at hr
    by_cases hnk : n = k
    · rw [if_pos hnk] at hr
      unfold harderW at hr
      rw [raisedN_get] at hr
      cases hq : (weatherM s k)[i]? with
      | none => rw [hq] at hr; cases hr
      | some q =>
        rw [hq] at hr
        simp only [Option.map_some, Option.some.injEq] at hr
        have := hx.1 i q (by rw [hnk]; exact hq)
        by_cases hc : a.toNat ≤ i ∧ i < (z + 1).toNat
        · rw [if_pos hc] at hr
          rw [if_pos ⟨hnk, hc⟩, ← hr]
          simp only [upR]
          omega
        · rw [if_neg hc] at hr
          rw [if_neg (fun h => hc h.2), ← hr]
          omega
    · rw [if_neg hnk] at hr
      rw [if_neg (fun h => hnk h.1)]
      have := hx.1 i r hr
      omega
  · intro i hi hl
    rw [skyF_at _ i hi, hx.2 i hi (by rw [hwl]; exact hl), if_neg (by omega)]
    rfl
theorem shift_back {s : Season} (c : CheckS s) {m : Int} (hr : s.reports = []) (M : MildW s m) {k n a z d : Int} (hk : k = 1 ∨ k = 2) (hn : n = 1 ∨ n = 2) (ha : 0 ≤ a) (haz : a ≤ z) (hz : z < s.heats.length) (h1 : d ≤ m) (h2 : -d ≤ m) {y : Sky} (hy : y ∈ allSkies (harderS s k a z d) n) : ∃ x, x ∈ allSkies s n ∧ ∀ w, w < 6 → x.at w = y.at w + if n = k ∧ a.toNat ≤ w ∧ w < (z + 1).toNat then -d else 0 := by
  obtain ⟨x, hx, e⟩ := shift_to (k := k) (d := -d) (harder_check c M hk a z h1 h2) hk hn ha haz (by rw [harderS_heats]; exact hz) hy
  refine ⟨x, ?_, e⟩
  rw [harder_twice s hk] at hx
  have h0 : weatherM (harderS s k a z (d + -d)) n = weatherM s n := by
    rw [harderS_weather s hk hn]
    split
    · rename_i h
      subst h
      unfold harderW
      apply List.ext_getElem?
      intro i
      rw [raisedN_get]
      cases (weatherM s n)[i]? with
      | none => rfl
      | some q =>
        simp only [Option.map_some, upR]
        rw [show d + -d = 0 from by omega, Int.add_zero, Int.add_zero, ite_self]
    · rfl
  unfold allSkies at hx ⊢
  rw [h0] at hx
  exact hx
/-- The joints of the law on warmer weather. -/
def hotJ (i : Nat) (j : Joint) : Joint := if i % 2 = 0 then { j with life := ⟨9, 9⟩, low := ⟨-50, -50⟩ } else { j with life := ⟨9, 9⟩, high := ⟨100, 100⟩ }
def hotL (js : List Joint) (k : Nat) : List Joint := js.mapIdx fun i j => if i < k then hotJ i j else j
theorem hotL_len (js : List Joint) (k : Nat) : (hotL js k).length = js.length := by simp [hotL]
theorem hotL_zero (js : List Joint) : hotL js 0 = js := by
  apply List.ext_getElem?
  intro i
  unfold hotL
  rw [List.getElem?_mapIdx]
  cases js[i]? <;> rfl
theorem hotL_get (js : List Joint) (k i : Nat) : (hotL js k)[i]? = (js[i]?).map fun j => if i < k then hotJ i j else j := by unfold hotL; rw [List.getElem?_mapIdx]
theorem hotL_succ {js : List Joint} {k : Nat} (hk : k < js.length) : (hotL js k).set k (hotJ k js[k]) = hotL js (k + 1) := by
  apply List.ext_getElem?
  intro i
  rw [List.getElem?_set, hotL_get, hotL_get, hotL_len]
  by_cases hi : k = i
  · subst hi
    simp [hk]
  · rw [if_neg hi]
    cases js[i]? with
    | none => rfl
    | some j =>
      simp only [Option.map_some]
      congr 1
      by_cases h : i < k
      · rw [if_pos h, if_pos (by omega)]
      · rw [if_neg h, if_neg (by omega)]
def hotS (s : Season) : Season := ⟨s.heats, s.damps, hotL s.joints s.joints.length, []⟩
theorem hotS_at {s : Season} {i : Nat} {j : Joint} (h : (hotS s).joints[i]? = some j) : ∃ q, s.joints[i]? = some q ∧ j = hotJ i q := by
  unfold hotS at h
  simp only at h
  rw [hotL_get] at h
  cases hq : s.joints[i]? with
  | none => rw [hq] at h; cases h
  | some q =>
    rw [hq] at h
    have hl := (List.getElem?_eq_some_iff.1 hq).1
    simp only [Option.map_some, Option.some.injEq] at h
    rw [if_pos hl] at h
    exact ⟨q, rfl, h.symm⟩
theorem hotS_check {s : Season} (c : CheckS s) : CheckS (hotS s) := by
  refine ⟨c.w1, c.w6, c.dl, c.h, c.d, by show (hotL _ _).length ≤ 3; rw [hotL_len]; exact c.j3, fun j hj => ?_, Nat.zero_le _, fun r h => (by cases h)⟩
  obtain ⟨i, hi⟩ := List.mem_iff_getElem?.1 hj
  obtain ⟨q, hq, rfl⟩ := hotS_at hi
  have hc := c.j q (List.mem_of_getElem? hq)
  unfold checkJointM at hc
  split at hc
  · cases hc
  · rename_i h0
    split at hc
    · rename_i h1; exact absurd hc h1
    · rename_i h1
      split at hc
      · rename_i h2; exact absurd hc h2
      · rename_i h2
        split at hc
        · rename_i h3; exact absurd hc h3
        · rename_i h3
          have w50 : checkWeatherM ⟨-50, -50⟩ = 0 := by decide
          have w100 : checkWeatherM ⟨100, 100⟩ = 0 := by decide
          have l9 : checkRangeM ⟨9, 9⟩ 0 9 = 0 := by decide
          by_cases he : i % 2 = 0
          · rw [hotJ, if_pos he, checkJointM, if_neg h0, if_neg h1, if_neg (by rw [w50]; decide), if_neg h3]; exact l9
          · rw [hotJ, if_neg he, checkJointM, if_neg h0, if_neg (by rw [w100]; decide), if_neg h2, if_neg h3]; exact l9
theorem sky_between {s : Season} (c : CheckS s) {m : Int} (M : MildW s m) {n : Int} {x : Sky} (hx : x ∈ allSkies s n) : ∀ w, w < s.heats.length → -50 + m ≤ x.at w ∧ x.at w ≤ 100 - m := by
  have hwl : (weatherM s n).length = s.heats.length := by
    unfold weatherM; split
    · rfl
    · exact c.dl
  intro w hw
  have hi : w < (weatherM s n).length := by omega
  have h1 := ((mem_allSkies (by rw [hwl]; exact c.w6)).1 hx).1 w _ (List.getElem?_eq_getElem hi)
  have h2 := M n _ (List.getElem_mem hi)
  omega
/-- Warmer or colder weather: a joint that only it harms fails no later. -/
theorem hot_later {s : Season} (c : CheckS s) {m : Int} (M : MildW s m) (hm : 20 ≤ m) {k a z d : Int} (hk : k = 1 ∨ k = 2) (ha : 0 ≤ a) (haz : a ≤ z) (hz : z < s.heats.length) (hd : -8 ≤ d ∧ d ≤ 8) {i : Nat} (hi : i < s.joints.length) (hs : if i % 2 = 0 then 0 ≤ d else d ≤ 0) :
    (∀ w, w < 7 → (failsM (hotS s) i).testBit w = true → ∃ w', w' ≤ w ∧ (failsM (harderS (hotS s) k a z d) i).testBit w' = true) ∧ (∀ w', w' < 7 → (failsM (harderS (hotS s) k a z d) i).testBit w' = true → ∃ w, w' ≤ w ∧ w < 7 ∧ (failsM (hotS s) i).testBit w = true) := by
  have C := hotS_check c
  have Mh : MildW (hotS s) m := M
  have CU := harder_check C Mh hk a z (d := d) (by omega) (by omega)
  have MU : MildW (harderS (hotS s) k a z d) 2 := Mh.harder hk a z (by omega) (by omega) (by omega)
  have h6 := c.w6
  have hil : i < (hotS s).joints.length := by show i < (hotL _ _).length; rw [hotL_len]; exact hi
  have hj : (hotS s).joints[i]? = some (hotS s).joints[i] := List.getElem?_eq_getElem hil
  obtain ⟨q, hq, ej⟩ := hotS_at hj
  have hju : (harderS (hotS s) k a z d).joints[i]? = some (hotS s).joints[i] := by rw [harderS_joints]; exact hj
  obtain ⟨j, hje⟩ : ∃ j, (hotS s).joints[i] = j := ⟨_, rfl⟩
  rw [hje] at hj hju ej
  have JB := checkJointM_zero (C.j j (List.mem_of_getElem? hj))
  have hlen : (harderS (hotS s) k a z d).heats.length = s.heats.length := harderS_heats _ _ _ _ _
  have hlen0 : (hotS s).heats.length = s.heats.length := rfl
  -- the two weathers, one against the other
  have main : ∀ (x y : Sky), (∀ w, w < s.heats.length → -50 + 2 ≤ x.at w ∧ x.at w ≤ 100 - 2) → (∀ w, w < s.heats.length → -50 + 2 ≤ y.at w ∧ y.at w ≤ 100 - 2) → (∀ w, w < s.heats.length → if i % 2 = 0 then x.at w ≤ y.at w else y.at w ≤ x.at w) →
      ∀ h cc many life : Int, (j.high.mn ≤ h ∧ h ≤ j.high.mx) → (j.low.mn ≤ cc ∧ cc ≤ j.low.mx) → (j.weeks.mn ≤ many ∧ many ≤ j.weeks.mx) → weekM y s.heats.length h cc many.toNat life.toNat ≤ weekM x s.heats.length h cc many.toNat life.toNat := by
    intro x y bx byy hxy h cc many life a1 a2 a3
    have w1 := JB.1.w1
    by_cases he : i % 2 = 0
    · rw [ej] at a2
      unfold hotJ at a2
      rw [if_pos he] at a2
      refine week_hot (by omega) (by omega) (fun w hw => ?_) (fun w hw => ?_) (fun w hw => ?_)
      · have := bx w hw; dsimp only at a2; omega
      · have := byy w hw; dsimp only at a2; omega
      · have := hxy w hw; rw [if_pos he] at this; exact this
    · rw [ej] at a1
      unfold hotJ at a1
      rw [if_neg he] at a1
      refine week_cold (by omega) (by omega) (fun w hw => ?_) (fun w hw => ?_) (fun w hw => ?_)
      · have := bx w hw; dsimp only at a1; omega
      · have := byy w hw; dsimp only at a1; omega
      · have := hxy w hw; rw [if_neg he] at this; exact this
  constructor
  · intro w _ hb
    obtain ⟨x, hx, h, cc, many, life, a1, a2, a3, a4, e⟩ := (bare_bit C rfl hj w).1 hb
    obtain ⟨y, hy, sh⟩ := shift_to (d := d) C hk JB.2 ha haz hz hx
    have bx := sky_between C Mh hx
    have byy := sky_between CU MU hy
    rw [hlen] at byy
    refine ⟨_, ?_, (bare_bit CU (harderS_reports _ _ _ _ _) hju _).2 ⟨y, hy, h, cc, many, life, a1, a2, a3, a4, rfl⟩⟩
    rw [hlen, ← e]
    refine main x y (fun w hw => by have := bx w hw; omega) (fun w hw => byy w hw) (fun w hw => ?_) h cc many life a1 a2 a3
    have e2 := sh w (by omega)
    by_cases he : i % 2 = 0
    · rw [if_pos he] at hs ⊢
      rw [e2]; split <;> omega
    · rw [if_neg he] at hs ⊢
      rw [e2]; split <;> omega
  · intro w _ hb
    obtain ⟨y, hy, h, cc, many, life, a1, a2, a3, a4, e⟩ := (bare_bit CU (harderS_reports _ _ _ _ _) hju w).1 hb
    obtain ⟨x, hx, sh⟩ := shift_back C rfl Mh hk JB.2 ha haz hz (by omega) (by omega) hy
    have bx := sky_between C Mh hx
    have byy := sky_between CU MU hy
    rw [hlen] at byy e
    refine ⟨_, ?_, ?_, (bare_bit C rfl hj _).2 ⟨x, hx, h, cc, many, life, a1, a2, a3, a4, rfl⟩⟩
    · rw [← e]
      refine main x y (fun w hw => by have := bx w hw; omega) (fun w hw => byy w hw) (fun w hw => ?_) h cc many life a1 a2 a3
      have e2 := sh w (by omega)
      by_cases he : i % 2 = 0
      · rw [if_pos he] at hs ⊢
        rw [e2]; split <;> omega
      · rw [if_neg he] at hs ⊢
        rw [e2]; split <;> omega
    · have := weekM_le x (hotS s).heats.length h cc many.toNat life.toNat
      omega
end Go.Wx
/- The own logic, part CD: remainders of ints. Conditions: none. -/
namespace Go.HL
open Go
theorem pv_remI {P : Program} {n : Nat} {d : Option Tmp} {ty : TypeId} {ps : String} {af : Array Edge} {S : Sl} {t u : TypeId} {x y : Operand} {a b : Nat} {a' b' : Int} (hx : ev n S x = .int .i64 a') (hy : ev n S y = .int .i64 b') (ea : a' = a) (eb : b' = b) (hb : 0 < b) :
    pev P (execOp (ev n S) ⟨d, .binOp .rem t x y u, ty, ps, af, none⟩) = some (.value (.int .i64 ((a % b : Nat) : Int))) := by
  subst ea eb
  have h0 : ¬ ((b : Nat) : Int) = 0 := by omega
  simp only [execOp, hx, hy, binOp, Op.intDiv, if_neg h0]
  rfl
end Go.HL
/- Walks: the law on warmer and colder weather. Conditions: as each theorem states. -/
namespace Go.Proofs.Ytndfkbapoinmkaa
open Go Go.HL Go.Proofs Go.Wx Go.RowKit
set_option maxRecDepth 100000
theorem mild_T {a b c : Nat} {s : Season} {ht dt fs : List Int} (T : SeasonT a b c s ht dt fs) : MildW s 20 := by
  intro n r hr
  unfold weatherM at hr
  split at hr
  · obtain ⟨t, ht', N⟩ := T.hn.mem hr
    have := T.hb t ht'
    obtain ⟨u, w, h1, h2, h3, h4, rfl⟩ := N
    dsimp only
    omega
  · obtain ⟨t, ht', N⟩ := T.dn.mem hr
    have := T.db t ht'
    obtain ⟨u, w, h1, h2, h3, h4, rfl⟩ := N
    dsimp only
    omega
theorem ends_cells {h : AH} {A : Option Addr} {l : List Int} (R : Row h 1 intC A l) (hpos : 0 < l.length) : ∃ g o, A = some ⟨g, o, none⟩ ∧ Cells h g o (intC (l.headD 0)) ∧ Cells h g (o + ((l.length : Int) - 1).toNat * 1) (intC (l.getLastD 0)) := by
  obtain ⟨g, o, e, C0⟩ := R.at (by omega) (i := 0) hpos
  obtain ⟨g', o', e', C1⟩ := R.at (by omega) (i := l.length - 1) (by omega)
  rw [e] at e'
  cases e'
  refine ⟨g, o, e, ?_, ?_⟩
  · have : l.headD 0 = l[0] := by simp [List.headD_eq_head?_getD, List.head?_eq_getElem?, List.getElem?_eq_getElem hpos]
    rw [this]
    simpa using C0
  · have : l.getLastD 0 = l[l.length - 1]'(by omega) := by
      rw [List.getLastD_eq_getLast?, List.getLast?_eq_getElem?, List.getElem?_eq_getElem (by omega)]
      rfl
    rw [this, show ((l.length : Int) - 1).toNat = l.length - 1 from by omega]
    exact C1
theorem listM_ne {m : Nat} (h : m ≠ 0) (h7 : m < 128) : listM m ≠ [] := List.length_pos_iff.1 (list_pos ⟨m, h7⟩ h)
set_option maxHeartbeats 8000000 in
theorem hotter_calls (w : World) (l : List Int) (hl : l.length < 2 ^ 63) (A : Option Addr) (c : Nat) (R : Row (absH w.heap) 1 intC A l) : Calls Try.prog 12 #[.slice A l.length c] w (fun e w' => e = .returned (.bool true) ∧ Below w.heap.size w w') := by
  refine calls_body Try.func12 rfl Try.ntmps12 rfl Try.results12 rfl fun h hh => ?_
  rw [← hh] at R
  refine xp_seq ?_
  refine xp_region rfl ?_
  refine op_pure (pv_assign (v := .bool _) rfl) ?_
  refine xp_seq ?_
  refine xp_region rfl ?_
  refine op_pure (pv_move (v := .slice _ _ _) rfl) ?_
  refine op_fnMM [] [] [] rfl rfl rfl ((NewPot_ok l hl A c h R)) ?_
  rintro _ h1 _ E1 ⟨b, x, rfl, rfl⟩
  refine wp_norm [_] rfl ?_
  refine op_pure (pv_assign (v := .pointer _) rfl) ?_
  refine xp_seq ?_
  refine xp_region rfl ?_
  refine op_pure (pv_move (v := .pointer _) rfl) ?_
  refine op_fnMM [] [_] [] (vs := _) rfl rfl rfl ((SeasonOf_okM b x 4 3 0 (by omega) (by omega) (by omega) (by omega) h1)) ?_
  rintro _ h2 _ E2 ⟨x2, s, ht, dt, fs, _, _, a5, ⟨p7, A7, n7, c7⟩, rfl, rfl, T, r5, r7, ⟨A0, c0, A1, c1, rfl, RH, RD⟩, HA, hc, DA, dc, FA, fc, rfl, R1, R2, R3⟩
  refine wp_norm [_, _, _] rfl ?_
  have C : CheckS s := SeasonT.checkS T (by omega) (by omega) (by omega)
  have hbare : s.reports = [] := List.eq_nil_of_length_eq_zero (by have := T.rl; omega)
  have M := mild_T T
  have h6 := C.w6
  have h1w := C.w1
  have hdl := C.dl
  have j3 := C.j3
  have hn5 : a5.n = s.joints.length := by have := AccR.len r5; rw [flat_len (m := 9) (fun _ _ => rfl)] at this; omega
  dsimp only
  refine op_pure (pv_move (v := .tuple #[.agg #[.slice _ _ _, .slice _ _ _, .slice _ _ _, .slice _ _ _], .agg #[.slice _ _ _, .slice _ _ _, .slice _ _ _]]) rfl) ?_
  refine op_pure (pv_of (v := .agg #[.slice _ _ _, .slice _ _ _, .slice _ _ _, .slice _ _ _]) rfl) ?_
  refine op_pure (pv_of (v := .agg #[.slice _ _ _, .slice _ _ _, .slice _ _ _]) rfl) ?_
  refine op_alloc (cs := [_, _, _, _]) rfl rfl fun b4 hb4 => ?_
  refine wp_norm [_, _, _, _] rfl ?_
  refine op_alloc (cs := [_, _, _]) rfl rfl fun b5 hb5 => ?_
  refine wp_norm [_, _, _, _, _] rfl ?_
  refine op_storeP 3 (v := .agg #[.slice _ _ _, .slice _ _ _, .slice _ _ _, .slice _ _ _]) (vs := [_, _, _, _]) (c' := [_, _, _, _]) rfl rfl rfl rfl rfl rfl rfl rfl rfl ?_
  refine wp_norm [_, _, _, _, _] rfl ?_
  refine op_storeP 4 (v := .agg #[.slice _ _ _, .slice _ _ _, .slice _ _ _]) (vs := [_, _, _]) (c' := [_, _, _]) rfl rfl rfl rfl rfl rfl rfl rfl rfl ?_
  refine wp_norm [_, _, _, _, _] rfl ?_
  refine goes_pubO 2 rfl ?_
  intro g7 G7 P7
  refine goes_norm [_, _, _, _, _] rfl ?_
  refine xp_cutB [6, 33, 34, 35, 36, 37, 38, 39, 40, 41, 42, 43, 44, 45, 46, 47, 48, 49, 50, 51, 52, 53, 54, 55, 56, 57, 58, 59, 60] 5 (α := Option (Nat × Obj)) (fun z => []) (fun z L => L.set 1 (z)) (fun z h_z => AccR 53 9 ((hotL s.joints s.joints.length).flatMap jointC) ⟨z, a5.A, a5.n, a5.c⟩) ?_ ?_
  · skip
    by_cases hn : s.joints = []
    · skip
      refine xp_seq ?_
      refine xp_region rfl ?_
      refine op_pure (pv_assign (v := .int .i64 _) rfl) ?_
      refine xp_block ?_
      refine xp_unroll ?_
      refine xp_seq ?_
      refine xp_seq ?_
      refine xp_region rfl ?_
      refine op_pure (pv_move (v := .int .i64 _) rfl) ?_
      refine op_pure (pv_fieldAddr rfl rfl rfl rfl 2 rfl) ?_
      refine op_loadP 3 (v := .slice _ _ _) rfl rfl rfl rfl ?_
      refine op_pure (pv_len rfl rfl) ?_
      refine op_pure (pv_of (v := .bool _) rfl) ?_
      refine xp_condF rfl ((by simp [hn])) ?_
      refine xp_exit ?_
      refine ⟨a5.p, trivial, rfl, rfl, (Ext.refl _), fun h3 E3 => by rw [hn] at r5 ⊢; exact r5, ?_⟩
      repeat (first | exact off_refl _ _ | exact off_base _ _ _ | refine off_upd (by decide) ?_ | refine off_updL rfl ?_ | refine off_mix rfl ?_)
    · skip
      obtain ⟨bJ, lenJ, capJ, junkJ, hlJ, hjJ, rfl⟩ := accR_some r5 (flat_ne jointM9 (by omega) hn)
      dsimp only at hn5
      subst hn5
      dsimp only
      refine xp_seq ?_
      refine xp_region rfl ?_
      refine op_pure (pv_assign (v := .int .i64 _) rfl) ?_
      refine xp_block ?_
      refine xp_loopL [6, 33, 34, 35, 36, 37, 38, 39, 40, 41, 42, 43, 44, 45, 46, 47, 48, 49, 50, 51, 52, 53, 54, 55, 56, 57, 58, 59, 60] 5 (α := Nat) (fun k => [(6, .int .i64 k)]) (fun k L => L.set 1 (some (bJ, .cells ((hotL s.joints k).flatMap jointC ++ junkJ).toArray 53 (0, 0)))) (fun k h_k => k ≤ s.joints.length) (fun k => s.joints.length - k) (0) ⟨rfl, trivial⟩ (by rw [hotL_zero]; rfl) (Nat.zero_le _) ?_
      rintro k T2 h_k E_k J_k
      refine goes_norm [_, _, _, _, _] rfl ?_
      refine xp_seq ?_
      refine xp_seq ?_
      refine xp_region rfl ?_
      refine op_pure (pv_move (v := .int .i64 _) rfl) ?_
      refine op_pure (pv_fieldAddr rfl rfl rfl rfl 2 rfl) ?_
      refine op_loadP 3 (v := .slice _ _ _) rfl rfl rfl rfl ?_
      refine op_pure (pv_len rfl rfl) ?_
      refine op_pure (pv_of (v := .bool _) rfl) ?_
      refine xp_cond rfl (fun hk => ?_) (fun hk => ?_)
      · skip
        have hkn : k < s.joints.length := ltI hk
        have hkl : k < (hotL s.joints k).length := by rw [hotL_len]; exact hkn
        have hke : (hotL s.joints k)[k] = s.joints[k] := by
          have := hotL_get s.joints k k
          rw [List.getElem?_eq_getElem hkl, List.getElem?_eq_getElem hkn] at this
          simpa using this
        have hc1l : k < ((hotL s.joints k).set k { s.joints[k] with life := ⟨9, 9⟩ }).length := by rw [List.length_set]; exact hkl
        refine xp_skip ?_
        refine xp_seq ?_
        refine xp_block ?_
        refine xp_seq ?_
        refine xp_dw [] rfl rfl rfl ?_
        refine dw_pure (i := 0) rfl (by decide +kernel) (pv_fieldAddr rfl rfl rfl rfl 2 rfl) ?_
        refine dw_load (i := 1) rfl (by decide +kernel) ?_
        refine op_loadP 3 (v := .slice _ _ _) rfl rfl rfl rfl ?_
        refine dw_pure (i := 2) rfl (by decide +kernel) (pv_move (v := .int .i64 _) rfl) ?_
        refine dw_eff (i := 3) rfl (by decide +kernel) ?_
        refine op_fn (caps := []) (vs := [.int .i64 _, .int .i64 _]) rfl rfl rfl (to_ok 9 9 h_k) ?_
        rintro _ h3 E3 rfl
        refine ⟨ext_wlm E3 _, ?_⟩
        refine dw_pure (i := 4) rfl (by decide +kernel) (pv_index rfl rfl rfl rfl (by omega) (by omega)) ?_
        refine dw_pure (i := 5) rfl (by decide +kernel) (pv_fieldAddr rfl rfl rfl rfl _ rfl) ?_
        refine dw_last (i := 6) rfl (by decide +kernel) (by decide +kernel) ?_
        refine op_storeP 1 (m := 2) (v := .agg #[.int .i64 9, .int .i64 9]) (vs := [.int .i64 9, .int .i64 9]) (off := 0 + (k : Int).toNat * 9 + 7) (c' := ((hotL s.joints k).set k { s.joints[k] with life := ⟨9, 9⟩ }).flatMap jointC ++ junkJ) rfl rfl rfl rfl rfl rfl (Nat.ble_eq_true_of_le (by rw [List.length_append, flat_len (m := 9) (fun _ _ => rfl), hotL_len]; omega)) rfl (by rw [show 0 + (k : Int).toNat * 9 + 7 = k * 9 + 7 from by omega]; exact flat_wr jointM9 hkl (by simp) (by rw [hke]; rfl) junkJ) ?_
        refine dw_norm [_, _, _, _, _] rfl ?_
        refine dw_end rfl ?_
        refine xp_seq ?_
        refine xp_region rfl ?_
        refine op_pure (pv_move (v := .int .i64 _) rfl) ?_
        refine op_pure (pv_remI (a := k) (b := 2) rfl rfl rfl rfl (by omega)) ?_
        refine op_pure (pv_of (v := .bool _) rfl) ?_
        refine xp_cond rfl (fun hpar => ?_) (fun hpar => ?_)
        · skip
          have hp0 : k % 2 = 0 := by have := of_decide_eq_true hpar; omega
          have hset : ((hotL s.joints k).set k { s.joints[k] with life := ⟨9, 9⟩ }).set k (hotJ k s.joints[k]) = hotL s.joints (k + 1) := by rw [List.set_set, hotL_succ hkn]
          refine xp_dw [] rfl rfl rfl ?_
          refine dw_pure (i := 0) rfl (by decide +kernel) (pv_fieldAddr rfl rfl rfl rfl 2 rfl) ?_
          refine dw_load (i := 1) rfl (by decide +kernel) ?_
          refine op_loadP 3 (v := .slice _ _ _) rfl rfl rfl rfl ?_
          refine dw_pure (i := 2) rfl (by decide +kernel) (pv_move (v := .int .i64 _) rfl) ?_
          refine dw_eff (i := 3) rfl (by decide +kernel) ?_
          refine op_fn (caps := []) (vs := [.int .i64 _, .int .i64 _]) rfl rfl rfl (to_ok (-50) (-50) h3) ?_
          rintro _ h4 E4 rfl
          refine ⟨ext_wlm E4 _, ?_⟩
          refine dw_pure (i := 4) rfl (by decide +kernel) (pv_index rfl rfl rfl rfl (by omega) (by omega)) ?_
          refine dw_pure (i := 5) rfl (by decide +kernel) (pv_fieldAddr rfl rfl rfl rfl _ rfl) ?_
          refine dw_last (i := 6) rfl (by decide +kernel) (by decide +kernel) ?_
          refine op_storeP 1 (m := 2) (v := .agg #[.int .i64 (-50), .int .i64 (-50)]) (vs := [.int .i64 (-50), .int .i64 (-50)]) (off := 0 + (k : Int).toNat * 9 + 3) (c' := (hotL s.joints (k + 1)).flatMap jointC ++ junkJ) rfl rfl rfl rfl rfl rfl (Nat.ble_eq_true_of_le (by rw [List.length_append, flat_len (m := 9) (fun _ _ => rfl), List.length_set, hotL_len]; omega)) rfl (by rw [show 0 + (k : Int).toNat * 9 + 3 = k * 9 + 3 from by omega, ← hset]; exact flat_wr jointM9 hc1l (by simp) (by rw [List.getElem_set_self, hotJ, if_pos hp0]; rfl) junkJ) ?_
          refine dw_norm [_, _, _, _, _] rfl ?_
          refine dw_end rfl ?_
          refine xp_region rfl ?_
          refine op_pure (pv_move (v := .int .i64 _) rfl) ?_
          refine op_pure (pv_arith rfl (by omega)) ?_
          refine op_pure (pv_assign (v := .int .i64 _) rfl) ?_
          refine ⟨k + 1, ⟨rfl, trivial⟩, rfl, rfl, (Ext.trans (Ext.trans E_k E3) E4), fun h3 E3 => hkn, by first | omega | (dsimp only; omega), ?_⟩
          repeat (first | exact off_base _ _ _ | refine off_upd (by decide) ?_ | refine off_updL rfl ?_ | refine off_mix rfl ?_)
        · skip
          have hp0 : ¬ k % 2 = 0 := by have := of_decide_eq_false hpar; omega
          have hset : ((hotL s.joints k).set k { s.joints[k] with life := ⟨9, 9⟩ }).set k (hotJ k s.joints[k]) = hotL s.joints (k + 1) := by rw [List.set_set, hotL_succ hkn]
          refine xp_dw [] rfl rfl rfl ?_
          refine dw_pure (i := 0) rfl (by decide +kernel) (pv_fieldAddr rfl rfl rfl rfl 2 rfl) ?_
          refine dw_load (i := 1) rfl (by decide +kernel) ?_
          refine op_loadP 3 (v := .slice _ _ _) rfl rfl rfl rfl ?_
          refine dw_pure (i := 2) rfl (by decide +kernel) (pv_move (v := .int .i64 _) rfl) ?_
          refine dw_eff (i := 3) rfl (by decide +kernel) ?_
          refine op_fn (caps := []) (vs := [.int .i64 _, .int .i64 _]) rfl rfl rfl (to_ok 100 100 h3) ?_
          rintro _ h4 E4 rfl
          refine ⟨ext_wlm E4 _, ?_⟩
          refine dw_pure (i := 4) rfl (by decide +kernel) (pv_index rfl rfl rfl rfl (by omega) (by omega)) ?_
          refine dw_pure (i := 5) rfl (by decide +kernel) (pv_fieldAddr rfl rfl rfl rfl _ rfl) ?_
          refine dw_last (i := 6) rfl (by decide +kernel) (by decide +kernel) ?_
          refine op_storeP 1 (m := 2) (v := .agg #[.int .i64 100, .int .i64 100]) (vs := [.int .i64 100, .int .i64 100]) (off := 0 + (k : Int).toNat * 9 + 1) (c' := (hotL s.joints (k + 1)).flatMap jointC ++ junkJ) rfl rfl rfl rfl rfl rfl (Nat.ble_eq_true_of_le (by rw [List.length_append, flat_len (m := 9) (fun _ _ => rfl), List.length_set, hotL_len]; omega)) rfl (by rw [show 0 + (k : Int).toNat * 9 + 1 = k * 9 + 1 from by omega, ← hset]; exact flat_wr jointM9 hc1l (by simp) (by rw [List.getElem_set_self, hotJ, if_neg hp0]; rfl) junkJ) ?_
          refine dw_norm [_, _, _, _, _] rfl ?_
          refine dw_end rfl ?_
          refine xp_region rfl ?_
          refine op_pure (pv_move (v := .int .i64 _) rfl) ?_
          refine op_pure (pv_arith rfl (by omega)) ?_
          refine op_pure (pv_assign (v := .int .i64 _) rfl) ?_
          refine ⟨k + 1, ⟨rfl, trivial⟩, rfl, rfl, (Ext.trans (Ext.trans E_k E3) E4), fun h3 E3 => hkn, by first | omega | (dsimp only; omega), ?_⟩
          repeat (first | exact off_base _ _ _ | refine off_upd (by decide) ?_ | refine off_updL rfl ?_ | refine off_mix rfl ?_)
      · skip
        have hke : k = s.joints.length := by have := geI hk; omega
        subst hke
        refine xp_exit ?_
        refine ⟨some (bJ, .cells ((hotL s.joints s.joints.length).flatMap jointC ++ junkJ).toArray 53 (0, 0)), trivial, rfl, rfl, E_k, fun h3 E3 => .inr ⟨bJ, _, _, junkJ, by rw [flat_len (m := 9) (fun _ _ => rfl), hotL_len], rfl, rfl, by rw [← hjJ]; simp [flat_len (m := 9) (enc := jointC) (fun _ _ => rfl), hotL_len]⟩, ?_⟩
        repeat (first | exact off_refl _ _ | exact off_base _ _ _ | refine off_upd (by decide) ?_ | refine off_updL rfl ?_ | refine off_mix rfl ?_)
  · rintro z T1 h_z E_z J_z
    refine goes_norm [_, _, _, _, _] rfl ?_
    obtain ⟨p5, A5, n5, c5⟩ := a5
    dsimp only at hn5 J_z
    subst hn5
    dsimp only
    refine goes_pubO 1 rfl ?_
    intro g5 G5 P5
    refine goes_norm [_, _, _, _, _] rfl ?_
    have CH : CheckS (hotS s) := hotS_check C
    have MH : MildW (hotS s) 20 := M
    have RS : SeasonR g5 A0 A1 A5 A7 (hotS s) := ⟨RH.ext (Ext.trans (Ext.trans G7 E_z) G5), RD.ext (Ext.trans (Ext.trans G7 E_z) G5), ⟨fun _ _ => rfl, AccR.rd J_z P5⟩, ⟨fun _ h => (by cases h), Rd.nil _ _⟩⟩
    have vH : seasonV A0 A1 A5 A7 c0 c1 c5 c7 (hotS s) = .agg #[.slice A0 s.heats.length c0, .slice A1 s.damps.length c1, .slice A5 s.joints.length c5, .slice A7 s.reports.length c7] := by
      unfold seasonV hotS; simp only [hotL_len, hbare, List.length_nil]
    refine xp_seq ?_
    refine xp_dw [true] rfl rfl rfl ?_
    refine dw_pure (i := 0) rfl (by decide +kernel) (pv_move (v := .pointer _) rfl) ?_
    refine dw_pure (i := 2) rfl (by decide +kernel) (pv_fieldAddr rfl rfl rfl rfl 0 rfl) ?_
    refine dw_load (i := 3) rfl (by decide +kernel) ?_
    refine op_loadP 3 (v := .slice _ _ _) rfl rfl rfl rfl ?_
    refine dw_pure (i := 4) rfl (by decide +kernel) (pv_len rfl rfl) ?_
    refine dw_pure (i := 5) rfl (by decide +kernel) (pv_arith rfl (by omega)) ?_
    refine dw_eff (i := 1) rfl (by decide +kernel) ?_
    refine op_fnMM [] [_] [_, _, _, _] (vs := [.pointer _, .int .i64 _, .int .i64 _]) rfl rfl rfl ((Within_ok b x2 1 2 (by omega) (by omega) (by omega) g5)) ?_
    rintro _ h6' _ E6 ⟨x6, kd, rfl, rfl, kd1, kd2⟩
    refine ⟨ext_wlm E6 _, ?_⟩
    refine dw_norm [_, _, _, _, _] rfl ?_
    have hk12 : kd = 1 ∨ kd = 2 := by omega
    refine dw_pure (i := 6) rfl (by decide +kernel) (pv_assign (v := .int .i64 _) rfl) ?_
    refine dw_pure (i := 7) rfl (by decide +kernel) (pv_assign (v := .int .i64 _) rfl) ?_
    refine dw_end rfl ?_
    refine xp_seq ?_
    refine xp_region rfl ?_
    refine op_pure (pv_move (v := .pointer _) rfl) ?_
    refine op_pure (pv_move (v := .int .i64 _) rfl) ?_
    refine op_fnMM [] [_] [_, _, _, _] (vs := [.pointer _, .int .i64 _]) rfl rfl rfl ((Upto_ok b x6 (s.heats.length - 1) (by omega) h6')) ?_
    rintro _ h7 _ E7 ⟨x7, fr, rfl, rfl, fr1, fr2⟩
    refine wp_norm [_, _, _, _, _] rfl ?_
    refine op_pure (pv_assign (v := .int .i64 _) rfl) ?_
    refine xp_seq ?_
    refine xp_region rfl ?_
    refine op_pure (pv_move (v := .pointer _) rfl) ?_
    refine op_pure (pv_move (v := .int .i64 _) rfl) ?_
    refine op_pure (pv_move (v := .int .i64 _) rfl) ?_
    refine op_fnMM [] [_] [_, _, _, _] (vs := [.pointer _, .int .i64 _, .int .i64 _]) rfl rfl rfl ((Within_ok b x7 fr (s.heats.length - 1) (by omega) (by omega) (by omega) h7)) ?_
    rintro _ h8 _ E8 ⟨x8, to, rfl, rfl, to1, to2⟩
    refine wp_norm [_, _, _, _, _] rfl ?_
    refine op_pure (pv_move (v := .pointer _) rfl) ?_
    refine op_fnMM [] [_] [_, _, _, _] (vs := [.pointer _, .int .i64 _]) rfl rfl rfl ((Upto_ok b x8 4 (by omega) h8)) ?_
    rintro _ h9 _ E9 ⟨x9, da, rfl, rfl, da1, da2⟩
    refine wp_norm [_, _, _, _, _] rfl ?_
    refine op_pure (pv_move (v := .pointer _) rfl) ?_
    refine op_fnMM [] [_] [_, _, _, _] (vs := [.pointer _, .int .i64 _]) rfl rfl rfl ((Upto_ok b x9 4 (by omega) h9)) ?_
    rintro _ h10 _ E10 ⟨x10, db, rfl, rfl, db1, db2⟩
    refine wp_norm [_, _, _, _, _] rfl ?_
    have hhl : (hotS s).heats.length = s.heats.length := rfl
    have CU := harder_check CH MH hk12 fr to (d := da) (by omega) (by omega)
    have MU : MildW (harderS (hotS s) kd fr to da) 16 := MH.harder hk12 fr to (by omega) (by omega) (by omega)
    have CD := harder_check CH MH hk12 fr to (d := 0 - da) (by omega) (by omega)
    have F1 := harder_fine CH MH hk12 fr1 to1 (by omega) (d := da) (by omega) (by omega) (by omega)
    have F2 := harder_fine CH MH hk12 fr1 to1 (by omega) (d := 0 - da) (by omega) (by omega) (by omega)
    have F3 := harder_fine CU MU hk12 fr1 to1 (by rw [harderS_heats]; omega) (d := db) (by omega) (by omega) (by omega)
    have F4 := harder_fine CH MH hk12 fr1 to1 (by omega) (d := da + db) (by omega) (by omega) (by omega)
    rw [harder_twice (hotS s) hk12] at F3
    have Co := harder_check CH MH hk12 fr to (d := da + db) (by omega) (by omega)
    obtain ⟨su, hsu⟩ : ∃ su, harderS (hotS s) kd fr to da = su := ⟨_, rfl⟩
    obtain ⟨sd, hsd⟩ : ∃ sd, harderS (hotS s) kd fr to (0 - da) = sd := ⟨_, rfl⟩
    obtain ⟨so, hso⟩ : ∃ so, harderS (hotS s) kd fr to (da + db) = so := ⟨_, rfl⟩
    rw [hso] at F3 F4 Co
    rw [hsu] at F1 F3 CU
    rw [hsd] at F2 CD
    refine op_pure (pv_assign (v := .int .i64 _) rfl) ?_
    refine op_pure (pv_assign (v := .int .i64 _) rfl) ?_
    refine op_pure (pv_assign (v := .int .i64 _) rfl) ?_
    refine xp_seq ?_
    refine xp_region rfl ?_
    refine op_loadPA 3 (vs := [.slice _ _ _, .slice _ _ _, .slice _ _ _, .slice _ _ _]) rfl rfl rfl rfl rfl ?_
    refine op_pure (pv_move (v := .int .i64 _) rfl) ?_
    refine op_pure (pv_move (v := .int .i64 _) rfl) ?_
    refine op_pure (pv_move (v := .int .i64 _) rfl) ?_
    refine op_pure (pv_move (v := .int .i64 _) rfl) ?_
    have HU := Harder_ok (hotS s) (small_of CH) kd fr to da A0 A1 A5 A7 c0 c1 c5 c7 h10 (RS.ext (Ext.trans (Ext.trans (Ext.trans (Ext.trans E6 E7) E8) E9) E10))
    rw [F1.1, F1.2, vH] at HU
    refine op_fn (caps := []) (vs := [.agg #[.slice _ _ _, .slice _ _ _, .slice _ _ _, .slice _ _ _], .int .i64 _, .int .i64 _, .int .i64 _, .int .i64 _]) rfl rfl rfl (HU) ?_
    rintro _ h11 E11 ⟨_, rfl, U0, U1, U2, U3, u0, u1, u2, u3, rfl, RU⟩
    refine op_pure (pv_move (v := .tuple #[.agg #[.slice _ _ _, .slice _ _ _, .slice _ _ _, .slice _ _ _], .int .i64 _]) rfl) ?_
    refine op_pure (pv_of (v := .agg #[.slice _ _ _, .slice _ _ _, .slice _ _ _, .slice _ _ _]) rfl) ?_
    refine op_pure (pv_of (v := .int .i64 _) rfl) ?_
    refine op_alloc (cs := [_, _, _, _]) rfl rfl fun b13 hb13 => ?_
    refine wp_norm [_, _, _, _, _, _] rfl ?_
    refine op_storeP 5 (v := .agg #[.slice _ _ _, .slice _ _ _, .slice _ _ _, .slice _ _ _]) (vs := [_, _, _, _]) (c' := [_, _, _, _]) rfl rfl rfl rfl rfl rfl rfl rfl rfl ?_
    refine wp_norm [_, _, _, _, _, _] rfl ?_
    refine op_pure (pv_assign (v := .int .i64 _) rfl) ?_
    refine xp_seq ?_
    refine xp_region rfl ?_
    refine op_loadPA 3 (vs := [.slice _ _ _, .slice _ _ _, .slice _ _ _, .slice _ _ _]) rfl rfl rfl rfl rfl ?_
    refine op_pure (pv_move (v := .int .i64 _) rfl) ?_
    refine op_pure (pv_move (v := .int .i64 _) rfl) ?_
    refine op_pure (pv_move (v := .int .i64 _) rfl) ?_
    refine op_pure (pv_move (v := .int .i64 _) rfl) ?_
    refine op_pure (pv_arith rfl (by omega)) ?_
    have HD := Harder_ok (hotS s) (small_of CH) kd fr to (0 - da) A0 A1 A5 A7 c0 c1 c5 c7 h11 (RS.ext (Ext.trans (Ext.trans (Ext.trans (Ext.trans (Ext.trans E6 E7) E8) E9) E10) E11))
    rw [F2.1, F2.2, vH] at HD
    refine op_fn (caps := []) (vs := [.agg #[.slice _ _ _, .slice _ _ _, .slice _ _ _, .slice _ _ _], .int .i64 _, .int .i64 _, .int .i64 _, .int .i64 _]) rfl rfl rfl (HD) ?_
    rintro _ h12 E12 ⟨_, rfl, V0, V1, V2, V3, v0, v1, v2, v3, rfl, RV⟩
    refine op_pure (pv_move (v := .tuple #[.agg #[.slice _ _ _, .slice _ _ _, .slice _ _ _, .slice _ _ _], .int .i64 _]) rfl) ?_
    refine op_pure (pv_of (v := .agg #[.slice _ _ _, .slice _ _ _, .slice _ _ _, .slice _ _ _]) rfl) ?_
    refine op_pure (pv_of (v := .int .i64 _) rfl) ?_
    refine op_alloc (cs := [_, _, _, _]) rfl rfl fun b15 hb15 => ?_
    refine wp_norm [_, _, _, _, _, _, _] rfl ?_
    refine op_storeP 6 (v := .agg #[.slice _ _ _, .slice _ _ _, .slice _ _ _, .slice _ _ _]) (vs := [_, _, _, _]) (c' := [_, _, _, _]) rfl rfl rfl rfl rfl rfl rfl rfl rfl ?_
    refine wp_norm [_, _, _, _, _, _, _] rfl ?_
    refine op_pure (pv_assign (v := .int .i64 _) rfl) ?_
    refine xp_seq ?_
    refine xp_region rfl ?_
    refine op_loadPA 5 (vs := [.slice _ _ _, .slice _ _ _, .slice _ _ _, .slice _ _ _]) rfl rfl rfl rfl rfl ?_
    refine op_pure (pv_move (v := .int .i64 _) rfl) ?_
    refine op_pure (pv_move (v := .int .i64 _) rfl) ?_
    refine op_pure (pv_move (v := .int .i64 _) rfl) ?_
    refine op_pure (pv_move (v := .int .i64 _) rfl) ?_
    have HM := Harder_ok su (small_of CU) kd fr to db U0 U1 U2 U3 u0 u1 u2 u3 h12 (RU.ext E12)
    rw [F3.1, F3.2] at HM
    refine op_fn (caps := []) (vs := [.agg #[.slice _ _ _, .slice _ _ _, .slice _ _ _, .slice _ _ _], .int .i64 _, .int .i64 _, .int .i64 _, .int .i64 _]) rfl rfl rfl (HM) ?_
    rintro _ h13 E13 ⟨_, rfl, X0, X1, X2, X3, y0, y1, y2, y3, rfl, RX⟩
    refine op_pure (pv_move (v := .tuple #[.agg #[.slice _ _ _, .slice _ _ _, .slice _ _ _, .slice _ _ _], .int .i64 _]) rfl) ?_
    refine op_pure (pv_of (v := .agg #[.slice _ _ _, .slice _ _ _, .slice _ _ _, .slice _ _ _]) rfl) ?_
    refine op_pure (pv_of (v := .int .i64 _) rfl) ?_
    refine op_alloc (cs := [_, _, _, _]) rfl rfl fun b17 hb17 => ?_
    refine wp_norm [_, _, _, _, _, _, _, _] rfl ?_
    refine op_storeP 7 (v := .agg #[.slice _ _ _, .slice _ _ _, .slice _ _ _, .slice _ _ _]) (vs := [_, _, _, _]) (c' := [_, _, _, _]) rfl rfl rfl rfl rfl rfl rfl rfl rfl ?_
    refine wp_norm [_, _, _, _, _, _, _, _] rfl ?_
    refine op_pure (pv_assign (v := .int .i64 _) rfl) ?_
    refine xp_seq ?_
    refine xp_region rfl ?_
    refine op_loadPA 3 (vs := [.slice _ _ _, .slice _ _ _, .slice _ _ _, .slice _ _ _]) rfl rfl rfl rfl rfl ?_
    refine op_pure (pv_move (v := .int .i64 _) rfl) ?_
    refine op_pure (pv_move (v := .int .i64 _) rfl) ?_
    refine op_pure (pv_move (v := .int .i64 _) rfl) ?_
    refine op_pure (pv_move (v := .int .i64 _) rfl) ?_
    refine op_pure (pv_move (v := .int .i64 _) rfl) ?_
    refine op_pure (pv_arith rfl (by omega)) ?_
    have HO := Harder_ok (hotS s) (small_of CH) kd fr to (da + db) A0 A1 A5 A7 c0 c1 c5 c7 h13 (RS.ext (Ext.trans (Ext.trans (Ext.trans (Ext.trans (Ext.trans (Ext.trans (Ext.trans E6 E7) E8) E9) E10) E11) E12) E13))
    rw [F4.1, F4.2, vH] at HO
    refine op_fn (caps := []) (vs := [.agg #[.slice _ _ _, .slice _ _ _, .slice _ _ _, .slice _ _ _], .int .i64 _, .int .i64 _, .int .i64 _, .int .i64 _]) rfl rfl rfl (HO) ?_
    rintro _ h14 E14 ⟨_, rfl, O0, O1, O2, O3, o0, o1, o2, o3, rfl, RO⟩
    refine op_pure (pv_move (v := .tuple #[.agg #[.slice _ _ _, .slice _ _ _, .slice _ _ _, .slice _ _ _], .int .i64 _]) rfl) ?_
    refine op_pure (pv_of (v := .agg #[.slice _ _ _, .slice _ _ _, .slice _ _ _, .slice _ _ _]) rfl) ?_
    refine op_pure (pv_of (v := .int .i64 _) rfl) ?_
    refine op_alloc (cs := [_, _, _, _]) rfl rfl fun b19 hb19 => ?_
    refine wp_norm [_, _, _, _, _, _, _, _, _] rfl ?_
    refine op_storeP 8 (v := .agg #[.slice _ _ _, .slice _ _ _, .slice _ _ _, .slice _ _ _]) (vs := [_, _, _, _]) (c' := [_, _, _, _]) rfl rfl rfl rfl rfl rfl rfl rfl rfl ?_
    refine wp_norm [_, _, _, _, _, _, _, _, _] rfl ?_
    refine op_pure (pv_assign (v := .int .i64 _) rfl) ?_
    refine xp_seq ?_
    refine xp_seq ?_
    refine xp_region rfl ?_
    refine op_pure (pv_move (v := .int .i64 _) rfl) ?_
    refine op_pure (pv_of (v := .bool _) rfl) ?_
    refine op_pure (pv_move (v := .bool _) rfl) ?_
    refine guard_yes rfl rfl ?_
    refine op_pure (pv_move (v := .int .i64 _) rfl) ?_
    refine guard_yes rfl rfl ?_
    refine op_pure (pv_of (v := .bool _) rfl) ?_
    refine op_pure (pv_pickF rfl rfl (v := .bool _) rfl) ?_
    refine op_pure (pv_move (v := .bool _) rfl) ?_
    refine guard_yes rfl rfl ?_
    refine op_pure (pv_move (v := .int .i64 _) rfl) ?_
    refine guard_yes rfl rfl ?_
    refine op_pure (pv_of (v := .bool _) rfl) ?_
    refine op_pure (pv_pickF rfl rfl (v := .bool _) rfl) ?_
    refine op_pure (pv_move (v := .bool _) rfl) ?_
    refine guard_yes rfl rfl ?_
    refine op_pure (pv_move (v := .int .i64 _) rfl) ?_
    refine guard_yes rfl rfl ?_
    refine op_pure (pv_of (v := .bool _) rfl) ?_
    refine op_pure (pv_pickF rfl rfl (v := .bool _) rfl) ?_
    refine op_pure (pv_move (v := .bool _) rfl) ?_
    refine guard_yes rfl rfl ?_
    refine op_loadPA 7 (vs := [.slice _ _ _, .slice _ _ _, .slice _ _ _, .slice _ _ _]) rfl rfl rfl rfl rfl ?_
    refine guard_yes rfl rfl ?_
    refine op_loadPA 8 (vs := [.slice _ _ _, .slice _ _ _, .slice _ _ _, .slice _ _ _]) rfl rfl rfl rfl rfl ?_
    refine guard_yes rfl rfl ?_
    have Smo := small_of Co
    have HS := sameSeasons_ok so so X0 X1 X2 X3 O0 O1 O2 O3 y0 y1 y2 y3 o0 o1 o2 o3 h14 (RX.ext E14) (RO.ext (Ext.refl _)) Smo.h0 Smo.h1 Smo.h2 Smo.h3
    rw [decide_eq_true (rfl : so = so)] at HS
    refine op_fn (caps := []) (vs := [.agg #[.slice _ _ _, .slice _ _ _, .slice _ _ _, .slice _ _ _], .agg #[.slice _ _ _, .slice _ _ _, .slice _ _ _, .slice _ _ _]]) rfl rfl rfl (HS) ?_
    rintro _ h15 E15 rfl
    refine guard_yes rfl rfl ?_
    refine op_pure (pv_of (v := .bool _) rfl) ?_
    refine op_pure (pv_pickF rfl rfl (v := .bool _) rfl) ?_
    refine xp_condF rfl (rfl) ?_
    refine xp_skip ?_
    refine xp_seq ?_
    refine xp_seq ?_
    refine xp_region rfl ?_
    refine op_pure (pv_assign (v := .int .i64 _) rfl) ?_
    refine xp_block ?_
    refine xp_loopB [2, 21, 22, 23, 24, 25, 137, 138, 139, 140, 141, 142, 143, 144, 145, 146, 147, 148, 149, 150, 151, 152, 153, 154, 155, 156, 157, 158, 159, 160, 161, 162, 163, 164, 165, 166, 167, 168, 169, 170, 171, 172, 173, 174, 175, 176, 177, 178, 179, 180, 181, 182, 183, 184, 185, 186, 187, 188, 189, 190, 191, 192, 193, 194, 195, 196, 197, 198, 199, 200, 201, 202, 203, 204] 9 (α := Nat) (fun j => [(21, .int .i64 j)]) (fun j => _) (fun j h_j => j ≤ s.joints.length) (fun j => s.joints.length - j) (0) ⟨rfl, trivial⟩ (rfl) (Nat.zero_le _) ?_
    rintro j T3 h_j E_j J_j
    refine goes_norm [_, _, _, _, _, _, _, _, _] rfl ?_
    refine xp_seq ?_
    refine xp_seq ?_
    refine xp_region rfl ?_
    refine op_pure (pv_move (v := .int .i64 _) rfl) ?_
    refine op_pure (pv_fieldAddr rfl rfl rfl rfl 2 rfl) ?_
    refine op_loadP 3 (v := .slice _ _ _) rfl rfl rfl rfl ?_
    refine op_pure (pv_len rfl rfl) ?_
    refine op_pure (pv_of (v := .bool _) rfl) ?_
    refine xp_cond rfl (fun hj => ?_) (fun hj => ?_)
    · skip
      have hjn : j < s.joints.length := ltI hj
      have hjh : j < (hotS s).joints.length := by show j < (hotL _ _).length; rw [hotL_len]; exact hjn
      have hju : j < su.joints.length := by rw [← hsu, harderS_joints]; exact hjh
      have hjd : j < sd.joints.length := by rw [← hsd, harderS_joints]; exact hjh
      have hru : su.reports = [] := by rw [← hsu]; exact harderS_reports _ _ _ _ _
      have hrd : sd.reports = [] := by rw [← hsd]; exact harderS_reports _ _ _ _ _
      have f1 := fails_of CH (may_bare CH rfl) hjh
      have f2 := fails_of CU (may_bare CU hru) hju
      have f3 := fails_of CD (may_bare CD hrd) hjd
      have n1 := bare_ne CH rfl hjh
      have n2 := bare_ne CU hru hju
      have n3 := bare_ne CD hrd hjd
      have b1 : failsM (hotS s) j < 128 := failsM_lt (by rw [hhl]; exact h6) j
      have b2 : failsM su j < 128 := failsM_lt CU.w6 j
      have b3 : failsM sd j < 128 := failsM_lt CD.w6 j
      have hot1 : j % 2 = 0 → _ := fun h0 => hot_later C M (by omega) hk12 fr1 to1 (by omega) (d := da) (by omega) hjn (by rw [if_pos h0]; exact da1)
      have hot2 : ¬ j % 2 = 0 → _ := fun h0 => hot_later C M (by omega) hk12 fr1 to1 (by omega) (d := 0 - da) (by omega) hjn (by rw [if_neg h0]; omega)
      rw [hsu] at hot1
      rw [hsd] at hot2
      obtain ⟨m1, hm1⟩ : ∃ m1, failsM (hotS s) j = m1 := ⟨_, rfl⟩
      rw [hm1] at f1 n1 b1 hot1 hot2
      refine xp_skip ?_
      refine xp_seq ?_
      refine xp_block ?_
      refine xp_seq ?_
      refine xp_region rfl ?_
      refine op_loadPA 3 (vs := [.slice _ _ _, .slice _ _ _, .slice _ _ _, .slice _ _ _]) rfl rfl rfl rfl rfl ?_
      refine op_pure (pv_move (v := .int .i64 _) rfl) ?_
      have H1 := Fails_ok (hotS s) (small_of CH) j A0 A1 A5 A7 c0 c1 c5 c7 h_j (RS.ext (Ext.trans (Ext.trans (Ext.trans (Ext.trans (Ext.trans (Ext.trans (Ext.trans (Ext.trans (Ext.trans (Ext.trans E6 E7) E8) E9) E10) E11) E12) E13) E14) E15) E_j))
      rw [f1.1, f1.2, vH] at H1
      refine op_fn (caps := []) (vs := [.agg #[.slice _ _ _, .slice _ _ _, .slice _ _ _, .slice _ _ _], .int .i64 _]) rfl rfl rfl (H1) ?_
      rintro _ h16 E16 ⟨_, rfl, Q1, q1, rfl, RL1⟩
      refine op_pure (pv_move (v := .tuple #[.slice _ _ _, .int .i64 _]) rfl) ?_
      refine op_pure (pv_of (v := .slice _ _ _) rfl) ?_
      refine op_pure (pv_of (v := .int .i64 _) rfl) ?_
      refine op_pure (pv_assign (v := .slice _ _ _) rfl) ?_
      refine op_pure (pv_assign (v := .int .i64 _) rfl) ?_
      refine xp_seq ?_
      refine xp_region rfl ?_
      refine op_loadPA 5 (vs := [.slice _ _ _, .slice _ _ _, .slice _ _ _, .slice _ _ _]) rfl rfl rfl rfl rfl ?_
      refine op_pure (pv_move (v := .int .i64 _) rfl) ?_
      have H2 := Fails_ok su (small_of CU) j U0 U1 U2 U3 u0 u1 u2 u3 h16 (RU.ext (Ext.trans (Ext.trans (Ext.trans (Ext.trans (Ext.trans E12 E13) E14) E15) E_j) E16))
      rw [f2.1, f2.2] at H2
      refine op_fn (caps := []) (vs := [.agg #[.slice _ _ _, .slice _ _ _, .slice _ _ _, .slice _ _ _], .int .i64 _]) rfl rfl rfl (H2) ?_
      rintro _ h17 E17 ⟨_, rfl, Q2, q2, rfl, RL2⟩
      refine op_pure (pv_move (v := .tuple #[.slice _ _ _, .int .i64 _]) rfl) ?_
      refine op_pure (pv_of (v := .slice _ _ _) rfl) ?_
      refine op_pure (pv_of (v := .int .i64 _) rfl) ?_
      refine op_pure (pv_assign (v := .slice _ _ _) rfl) ?_
      refine op_pure (pv_assign (v := .int .i64 _) rfl) ?_
      refine xp_cutB [24, 25, 156, 157, 158, 159, 160, 161, 162, 163, 164] 9 (α := Option Addr × Nat × Nat) (fun ⟨ZA, zc, m2⟩ => [(24, .slice ZA (listM m2).length zc), (25, .int .i64 0)]) (fun ⟨ZA, zc, m2⟩ L => L) (fun ⟨ZA, zc, m2⟩ h_ZA => Row h_ZA 1 intC ZA (listM m2) ∧ m2 ≠ 0 ∧ m2 < 128 ∧ (∀ w, w < 7 → m1.testBit w = true → ∃ w', w' ≤ w ∧ m2.testBit w' = true) ∧ (∀ w', w' < 7 → m2.testBit w' = true → ∃ w, w' ≤ w ∧ w < 7 ∧ m1.testBit w = true)) ?_ ?_
      · skip
        refine xp_seq ?_
        refine xp_region rfl ?_
        refine op_pure (pv_move (v := .int .i64 _) rfl) ?_
        refine op_pure (pv_remI (a := j) (b := 2) rfl rfl rfl rfl (by omega)) ?_
        refine op_pure (pv_of (v := .bool _) rfl) ?_
        refine xp_cond rfl (fun hpar => ?_) (fun hpar => ?_)
        · skip
          have hp0 : ¬ j % 2 = 0 := by have := of_decide_eq_true hpar; omega
          refine xp_region rfl ?_
          refine op_loadPA 6 (vs := [.slice _ _ _, .slice _ _ _, .slice _ _ _, .slice _ _ _]) rfl rfl rfl rfl rfl ?_
          refine op_pure (pv_move (v := .int .i64 _) rfl) ?_
          have H3 := Fails_ok sd (small_of CD) j V0 V1 V2 V3 v0 v1 v2 v3 h17 (RV.ext (Ext.trans (Ext.trans (Ext.trans (Ext.trans (Ext.trans E13 E14) E15) E_j) E16) E17))
          rw [f3.1, f3.2] at H3
          refine op_fn (caps := []) (vs := [.agg #[.slice _ _ _, .slice _ _ _, .slice _ _ _, .slice _ _ _], .int .i64 _]) rfl rfl rfl (H3) ?_
          rintro _ h18 E18 ⟨_, rfl, Q3, q3, rfl, RL3⟩
          refine op_pure (pv_move (v := .tuple #[.slice _ _ _, .int .i64 _]) rfl) ?_
          refine op_pure (pv_of (v := .slice _ _ _) rfl) ?_
          refine op_pure (pv_of (v := .int .i64 _) rfl) ?_
          refine op_pure (pv_assign (v := .slice _ _ _) rfl) ?_
          refine op_pure (pv_assign (v := .int .i64 _) rfl) ?_
          refine ⟨(Q3, q3, failsM sd j), ⟨rfl, rfl, trivial⟩, rfl, rfl, E18, fun h3 E3 => ⟨RL3.ext E3, n3, b3, (hot2 hp0).1, (hot2 hp0).2⟩, ?_⟩
          repeat (first | exact off_refl _ _ | exact off_base _ _ _ | refine off_upd (by decide) ?_ | refine off_updL rfl ?_ | refine off_mix rfl ?_)
        · skip
          have hp0 : j % 2 = 0 := by have := of_decide_eq_false hpar; omega
          refine xp_skip ?_
          refine ⟨(Q2, q2, failsM su j), ⟨rfl, rfl, trivial⟩, rfl, rfl, (Ext.refl _), fun h3 E3 => ⟨RL2.ext E3, n2, b2, (hot1 hp0).1, (hot1 hp0).2⟩, ?_⟩
          repeat (first | exact off_refl _ _ | exact off_base _ _ _ | refine off_upd (by decide) ?_ | refine off_updL rfl ?_ | refine off_mix rfl ?_)
      · rintro ⟨ZA, zc, m2⟩ T4 h_ZA E_ZA J_ZA
        refine goes_norm [_, _, _, _, _, _, _, _, _] rfl ?_
        obtain ⟨RZ, nz, bz, z1, z2⟩ := J_ZA
        have l1 := List.length_pos_iff.2 (listM_ne n1 b1)
        have l2 := List.length_pos_iff.2 (listM_ne nz bz)
        have e1 := head_le z1 (listM_ne n1 b1)
        have e2 := last_le z2 (listM_ne nz bz)
        obtain ⟨gQ, oQ, rfl, D0, D1⟩ := ends_cells RL1 l1
        obtain ⟨gZ, oZ, rfl, Z0, Z1⟩ := ends_cells RZ l2
        have t1 : (((listM m1).length : Int) == 0) = false := beq_eq_false_iff_ne.2 (by omega)
        have t2 : (((listM m2).length : Int) == 0) = false := beq_eq_false_iff_ne.2 (by omega)
        have t3 : decide ((listM m2).headD 0 > (listM m1).headD 0) = false := decide_eq_false (by omega)
        have k1l : (listM m1).length ≤ 7 := listN_len _ _
        have k2l : (listM m2).length ≤ 7 := listN_len _ _
        refine xp_seq ?_
        refine xp_dw [] rfl rfl rfl ?_
        refine dw_pure (i := 0) rfl (by decide +kernel) (pv_move (v := .int .i64 _) rfl) ?_
        refine dw_pure (i := 1) rfl (by decide +kernel) (pv_of (v := .bool _) rfl) ?_
        refine dw_pure (i := 2) rfl (by decide +kernel) (pv_move (v := .bool _) rfl) ?_
        refine dw_pureG (i := 3) rfl (by decide +kernel) rfl rfl (pv_move (v := .int .i64 _) rfl) ?_
        refine dw_pureG (i := 4) rfl (by decide +kernel) rfl rfl (pv_of (v := .bool _) rfl) ?_
        refine dw_pure (i := 5) rfl (by decide +kernel) (pv_pickF rfl rfl (v := .bool _) rfl) ?_
        refine dw_pure (i := 6) rfl (by decide +kernel) (pv_move (v := .bool _) rfl) ?_
        refine dw_pureG (i := 7) rfl (by decide +kernel) rfl rfl (pv_move (v := .slice _ _ _) rfl) ?_
        refine dw_pureG (i := 8) rfl (by decide +kernel) rfl rfl (pv_len rfl rfl) ?_
        refine dw_pureG (i := 9) rfl (by decide +kernel) rfl rfl (pv_of (v := .bool _) rfl) ?_
        refine dw_pure (i := 10) rfl (by decide +kernel) (pv_pickF rfl rfl (v := .bool _) rfl) ?_
        refine dw_pure (i := 11) rfl (by decide +kernel) (pv_move (v := .bool _) rfl) ?_
        refine dw_pureG (i := 12) rfl (by decide +kernel) rfl t1 (pv_move (v := .slice _ _ _) rfl) ?_
        refine dw_pureG (i := 13) rfl (by decide +kernel) rfl t1 (pv_len rfl rfl) ?_
        refine dw_pureG (i := 14) rfl (by decide +kernel) rfl t1 (pv_of (v := .bool _) rfl) ?_
        refine dw_pure (i := 15) rfl (by decide +kernel) (pv_pickF rfl t1 (v := .bool _) rfl) ?_
        refine dw_pure (i := 16) rfl (by decide +kernel) (pv_move (v := .bool _) rfl) ?_
        refine dw_pureG (i := 17) rfl (by decide +kernel) rfl t2 (pv_move (v := .slice _ _ _) rfl) ?_
        refine dw_pureG (i := 18) rfl (by decide +kernel) rfl t2 (pv_index rfl rfl rfl rfl (by omega) (by omega)) ?_
        refine dw_loadG (i := 19) rfl (by decide +kernel) rfl t2 ?_
        refine op_load (v := .int .i64 _) rfl rfl ((Z0) 0 _ rfl) ?_
        refine dw_pureG (i := 20) rfl (by decide +kernel) rfl t2 (pv_move (v := .slice _ _ _) rfl) ?_
        refine dw_pureG (i := 21) rfl (by decide +kernel) rfl t2 (pv_index rfl rfl rfl rfl (by omega) (by omega)) ?_
        refine dw_loadG (i := 22) rfl (by decide +kernel) rfl t2 ?_
        refine op_load (v := .int .i64 _) rfl rfl ((D0.ext (Ext.trans E17 E_ZA)) 0 _ rfl) ?_
        refine dw_pureG (i := 23) rfl (by decide +kernel) rfl t2 (pv_of (v := .bool _) rfl) ?_
        refine dw_pure (i := 24) rfl (by decide +kernel) (pv_pickF rfl t2 (v := .bool _) rfl) ?_
        refine dw_pure (i := 25) rfl (by decide +kernel) (pv_move (v := .bool _) rfl) ?_
        refine dw_pureG (i := 26) rfl (by decide +kernel) rfl t3 (pv_move (v := .slice _ _ _) rfl) ?_
        refine dw_pureG (i := 27) rfl (by decide +kernel) rfl t3 (pv_move (v := .slice _ _ _) rfl) ?_
        refine dw_pureG (i := 28) rfl (by decide +kernel) rfl t3 (pv_len rfl rfl) ?_
        refine dw_pureG (i := 29) rfl (by decide +kernel) rfl t3 (pv_arith rfl (by omega)) ?_
        refine dw_pureG (i := 30) rfl (by decide +kernel) rfl t3 (pv_index rfl rfl rfl rfl (by omega) (by omega)) ?_
        refine dw_loadG (i := 31) rfl (by decide +kernel) rfl t3 ?_
        refine op_load (v := .int .i64 _) rfl rfl ((Z1) 0 _ rfl) ?_
        refine dw_pureG (i := 32) rfl (by decide +kernel) rfl t3 (pv_move (v := .slice _ _ _) rfl) ?_
        refine dw_pureG (i := 33) rfl (by decide +kernel) rfl t3 (pv_move (v := .slice _ _ _) rfl) ?_
        refine dw_pureG (i := 34) rfl (by decide +kernel) rfl t3 (pv_len rfl rfl) ?_
        refine dw_pureG (i := 35) rfl (by decide +kernel) rfl t3 (pv_arith rfl (by omega)) ?_
        refine dw_pureG (i := 36) rfl (by decide +kernel) rfl t3 (pv_index rfl rfl rfl rfl (by omega) (by omega)) ?_
        refine dw_loadG (i := 37) rfl (by decide +kernel) rfl t3 ?_
        refine op_load (v := .int .i64 _) rfl rfl ((D1.ext (Ext.trans E17 E_ZA)) 0 _ rfl) ?_
        refine dw_pureG (i := 38) rfl (by decide +kernel) rfl t3 (pv_of (v := .bool _) rfl) ?_
        refine dw_pure (i := 39) rfl (by decide +kernel) (pv_pickF rfl t3 (v := .bool _) rfl) ?_
        refine dw_end rfl ?_
        refine xp_condF rfl ((decide_eq_false (by omega))) ?_
        refine xp_skip ?_
        refine xp_region rfl ?_
        refine op_pure (pv_move (v := .int .i64 _) rfl) ?_
        refine op_pure (pv_arith rfl (by omega)) ?_
        refine op_pure (pv_assign (v := .int .i64 _) rfl) ?_
        refine ⟨j + 1, ⟨rfl, trivial⟩, rfl, rfl, (Ext.trans (Ext.trans (Ext.trans E_j E16) E17) E_ZA), fun h3 E3 => by omega, by first | omega | (dsimp only; omega), ?_⟩
        repeat (first | exact off_base _ _ _ | refine off_upd (by decide) ?_ | refine off_updL rfl ?_ | refine off_mix rfl ?_)
    · skip
      refine xp_exit ?_
      refine xp_seq ?_
      refine xp_region rfl ?_
      refine op_fn (caps := []) (vs := []) rfl rfl rfl (warm_ok h_j) ?_
      rintro _ h20 E20 rfl
      refine op_pure (pv_assign (v := .bool _) rfl) ?_
      refine xp_ret ?_
      exact ⟨rfl, fun V => (Ext.trans (Ext.trans (Ext.trans (Ext.trans (Ext.trans (Ext.trans (Ext.trans (Ext.trans (Ext.trans (Ext.trans (Ext.trans (Ext.trans (Ext.trans (Ext.trans (Ext.trans (Ext.trans (Ext.trans E1 E2) G7) E_z) G5) E6) E7) E8) E9) E10) E11) E12) E13) E14) E15) E_j) E20) (ext_wl V)), rfl⟩
end Go.Proofs.Ytndfkbapoinmkaa
