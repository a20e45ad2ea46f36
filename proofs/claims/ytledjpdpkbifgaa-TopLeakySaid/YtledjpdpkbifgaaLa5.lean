/- An own logic over the model, its walks and its plain laws, joined of parts W28 Tf Tg W29 W30 W31 Th W32 Ti W33 Tj W34 W35 Tk Tl W37 W38 HB Ka K1 K2 K3 K4 Kb Tm Tn To Tp Kc W39 W40 K5 Tq W41 W42 W44 Uc K6. Conditions: as each theorem states. -/
import Derived.Test.YtledjpdpkbifgaaLa4
import Derived.Test.YtledjpdpkbifgaaLa2
import Derived.Test.YtledjpdpkbifgaaLa1
import Derived.Conc.LeavingOf
set_option linter.all false
/- Walks: the law on the margin. Conditions: as each theorem states. -/
namespace Go.Proofs.Ytledjpdpkbifgaa
open Go Go.HL Go.Proofs Go.Wx Go.RowKit
variable [Lvl]
set_option maxRecDepth 100000
theorem SeasonT.checkS {a b c : Nat} {s : Season} {ht dt fs : List Int} (T : SeasonT a b c s ht dt fs) (ha : a ≤ 6) (hb : b ≤ 3) (hc : c ≤ 5) : CheckS s := CheckS.of (check_T T ha hb hc)
theorem failed_of {s : Season} (c : CheckS s) (m : mayM s = true) {j w : Nat} (hj : j < s.joints.length) (hw : w < s.heats.length) : failedE s j w = 0 ∧ failedV s j w = failedM s j w := by
  have e : failedE s j w = 0 := known_of c m (by
    intro x hx
    rcases List.mem_cons.1 hx with rfl | hx
    · unfold isJointM inM; rw [if_pos (by simp; omega)]
    · rw [List.mem_singleton.1 hx]; unfold isWeekM inM; rw [if_pos (by simp; omega)])
  exact ⟨e, by unfold failedV; rw [if_pos e]; rfl⟩
theorem small_of {s : Season} (c : CheckS s) : Small s := by
  have := c.w6; have := c.dl; have := c.j3; have := c.r5
  exact ⟨by omega, by omega, by omega, by omega⟩
end Go.Proofs.Ytledjpdpkbifgaa
/- Plain: joints in another order, and joints of one kind alone. Conditions: as each theorem states. -/
namespace Go.Wx
open Go Go.HL
variable [Lvl]
/-- Two seasons whose joints of a kind are the same but for their places. -/
structure SameK (s s' : Season) (n : Int) (f : Nat → Nat) : Prop where
  hs : s'.heats = s.heats
  ds : s'.damps = s.damps
  goes : ∀ (i : Nat) j, s.joints[i]? = some j → j.kind = n → s'.joints[f i]? = some j ∧ toldW s' (f i) = toldW s i
  comes : ∀ (i' : Nat) j, s'.joints[i']? = some j → j.kind = n → ∃ i, s.joints[i]? = some j ∧ f i = i'
section
variable {s s' : Season} {n : Int} {f : Nat → Nat}
theorem SameK.surv (e : SameK s s' n f) (x : Sky) {i : Nat} {j : Joint} (hj : s.joints[i]? = some j) (hk : j.kind = n) : surv s' n x (f i) = surv s n x i := by
  obtain ⟨h1, h2⟩ := e.goes i j hj hk
  unfold Wx.surv
  rw [hj, h1, h2, e.hs]
theorem SameK.all (e : SameK s s' n f) : allSkies s' n = allSkies s n := by unfold allSkies weatherM; rw [e.hs, e.ds]
theorem SameK.okE (e : SameK s s' n f) (x : Sky) : okM s' n x = okM s n x := by
  rw [Bool.eq_iff_iff, okM_iff, okM_iff]
  constructor
  · intro h i j hj hk; rw [← e.surv x hj hk]; exact h _ _ (e.goes i j hj hk).1 hk
  · intro h i' j hj hk
    obtain ⟨i, hi, rfl⟩ := e.comes i' j hj hk
    rw [e.surv x hi hk]
    exact h _ _ hi hk
theorem kindAt_some {s : Season} {i : Nat} {j : Joint} (hj : s.joints[i]? = some j) : kindAt s i = j.kind := by unfold kindAt; rw [hj]; rfl
theorem SameK.fails (e : SameK s s' n f) {i : Nat} {j : Joint} (hj : s.joints[i]? = some j) (hk : j.kind = n) : failsM s' (f i) = failsM s i := by
  unfold failsM
  rw [kindAt_some hj, kindAt_some (e.goes i j hj hk).1, hk]
  apply Nat.eq_of_testBit_eq
  intro w
  rw [Bool.eq_iff_iff, maskM_bit, maskM_bit]
  simp only [mem_flsM, e.all, e.okE, e.surv _ hj hk]
end
theorem checkSeen_iff {s : Season} {r : Seen} : checkSeenM s r = 0 ↔ 0 ≤ r.joint ∧ r.joint < s.joints.length ∧ 0 ≤ r.week ∧ r.week < s.heats.length := by
  unfold checkSeenM inM
  constructor
  · intro h
    split at h
    · cases h
    · rename_i q1
      split at h
      · cases h
      · rename_i q2
        simp only [Bool.not_eq_true, Bool.not_eq_false', Bool.and_eq_true, decide_eq_true_eq] at q1 q2
        omega
  · intro h
    rw [if_neg (by simp; omega), if_neg (by simp; omega)]
/-- Numbers from 0 on in another order. -/
structure Order (o : List Int) (n : Nat) : Prop where
  len : o.length = n
  bd : ∀ x ∈ o, 0 ≤ x ∧ x < n
  inj : ∀ (i k : Nat), i < n → k < n → o[i]? = o[k]? → i = k
theorem Order.at' {o : List Int} {n : Nat} (O : Order o n) {i : Nat} (hi : i < n) : ∃ k : Nat, o[i]? = some (k : Int) ∧ k < n := by
  have hl : i < o.length := by rw [O.len]; exact hi
  have := O.bd o[i] (List.getElem_mem hl)
  exact ⟨o[i].toNat, by rw [List.getElem?_eq_getElem hl]; congr 1; omega, by omega⟩
/-- Where a joint goes. -/
def ordN (o : List Int) (i : Nat) : Nat := (o.getD i 0).toNat
theorem Order.ordN {o : List Int} {n : Nat} (O : Order o n) {i : Nat} (hi : i < n) : o[i]? = some ((ordN o i : Nat) : Int) ∧ Wx.ordN o i < n := by
  obtain ⟨k, h1, h2⟩ := O.at' hi
  unfold Wx.ordN
  rw [List.getD_eq_getElem?_getD, h1]
  simpa using h2
def moved (o : List Int) (r : Seen) : Seen := { r with joint := o.getD r.joint.toNat 0 }
/-- The joints of a season in another order. -/
structure Moved (s x : Season) (o : List Int) : Prop where
  ord : Order o s.joints.length
  hs : x.heats = s.heats
  ds : x.damps = s.damps
  jl : x.joints.length = s.joints.length
  js : ∀ i, i < s.joints.length → x.joints[ordN o i]? = s.joints[i]?
  rs : x.reports = s.reports.map (moved o)
end Go.Wx
/- Plain: elements changed in place; an order that is made; joints moved. Conditions: as each theorem states. -/
namespace Go.Wx
open Go Go.HL
variable [Lvl]
section
variable {α : Type} {enc : α → List Value} {m : Nat} (hm : ∀ x, (enc x).length = m)
include hm
end
/-- The first i places hold the numbers below i, in some order. -/
structure MixP (l : List Int) (i : Nat) : Prop where
  bd : ∀ m, m < i → ∃ v : Int, l[m]? = some v ∧ 0 ≤ v ∧ v < i
  inj : ∀ m m' : Nat, m < i → m' < i → l[m]? = l[m']? → m = m'
theorem MixP.zero (l : List Int) : MixP l 0 := ⟨fun m h => absurd h (Nat.not_lt_zero m), fun m _ h => absurd h (Nat.not_lt_zero m)⟩
def mixS (l : List Int) (i k : Nat) : List Int := (l.set i (l.getD k 0)).set k (i : Int)
theorem mixS_get {l : List Int} {i k : Nat} (hi : i < l.length) (hk : k ≤ i) (m : Nat) : (mixS l i k)[m]? = if m = k then some (i : Int) else if m = i then l[k]? else l[m]? := by
  unfold mixS
  have hkl : k < l.length := by omega
  rw [List.getElem?_set, List.length_set]
  by_cases h1 : k = m
  · subst h1
    simp [hkl]
  · rw [if_neg h1, if_neg (fun e => h1 e.symm), List.getElem?_set]
    by_cases h2 : i = m
    · subst h2
      simp [hi, List.getD_eq_getElem?_getD, List.getElem?_eq_getElem hkl]
    · rw [if_neg h2, if_neg (fun e => h2 e.symm)]
theorem MixP.step {l : List Int} {i k : Nat} (P : MixP l i) (hi : i < l.length) (hk : k ≤ i) : MixP (mixS l i k) (i + 1) := by
  have gk : k < i → ∃ v : Int, l[k]? = some v ∧ 0 ≤ v ∧ v < i := fun h => P.bd k h
  constructor
  · intro m hm
    rw [mixS_get hi hk]
    by_cases h1 : m = k
    · rw [if_pos h1]; exact ⟨i, rfl, by omega, by omega⟩
    · rw [if_neg h1]
      by_cases h2 : m = i
      · rw [if_pos h2]
        obtain ⟨v, e, a, b⟩ := gk (by omega)
        exact ⟨v, e, a, by omega⟩
      · rw [if_neg h2]
        obtain ⟨v, e, a, b⟩ := P.bd m (by omega)
        exact ⟨v, e, a, by omega⟩
  · have val : ∀ m, m < i + 1 → ∃ v : Int, (mixS l i k)[m]? = some v ∧ (m ≠ k → v < i) ∧ (m = k → v = i) := by
      intro m hm
      rw [mixS_get hi hk]
      by_cases h1 : m = k
      · rw [if_pos h1]; exact ⟨i, rfl, fun h => absurd h1 h, fun _ => rfl⟩
      · rw [if_neg h1]
        by_cases h2 : m = i
        · rw [if_pos h2]
          obtain ⟨v, e, a, b⟩ := gk (by omega)
          exact ⟨v, e, fun _ => b, fun h => absurd h h1⟩
        · rw [if_neg h2]
          obtain ⟨v, e, a, b⟩ := P.bd m (by omega)
          exact ⟨v, e, fun _ => b, fun h => absurd h h1⟩
    intro m m' hm hm' e
    obtain ⟨v, e1, a1, b1⟩ := val m hm
    obtain ⟨v', e2, a2, b2⟩ := val m' hm'
    have hv : v = v' := by rw [e1, e2] at e; simpa using e
    by_cases h1 : m = k
    · by_cases h2 : m' = k
      · omega
      · have := a2 h2; have := b1 h1; omega
    · by_cases h2 : m' = k
      · have := a1 h1; have := b2 h2; omega
      · rw [mixS_get hi hk, mixS_get hi hk, if_neg h1, if_neg h2] at e
        by_cases h3 : m = i
        · by_cases h4 : m' = i
          · omega
          · rw [if_pos h3, if_neg h4] at e
            have := P.inj k m' (by omega) (by omega) e
            omega
        · by_cases h4 : m' = i
          · rw [if_neg h3, if_pos h4] at e
            have := P.inj m k (by omega) (by omega) e
            omega
          · rw [if_neg h3, if_neg h4] at e
            exact P.inj m m' (by omega) (by omega) e
theorem MixP.order {l : List Int} {n : Nat} (P : MixP l n) (hl : l.length = n) : Order l n := by
  refine ⟨hl, fun x hx => ?_, P.inj⟩
  obtain ⟨i, hi⟩ := List.mem_iff_getElem?.1 hx
  have := (List.getElem?_eq_some_iff.1 hi).1
  obtain ⟨v, e, a, b⟩ := P.bd i (by omega)
  rw [hi] at e
  cases e
  exact ⟨a, b⟩
end Go.Wx
/- Walks: an order; copies of seasons. Conditions: as each theorem states. -/
namespace Go.Proofs.Ytledjpdpkbifgaa
open Go Go.HL Go.Proofs Go.Wx
variable [Lvl]
set_option maxRecDepth 100000
end Go.Proofs.Ytledjpdpkbifgaa
/- Walks: the law on joints apart. Conditions: as each theorem states. -/
namespace Go.Proofs.Ytledjpdpkbifgaa
open Go Go.HL Go.Proofs Go.Wx Go.RowKit
variable [Lvl]
set_option maxRecDepth 100000
end Go.Proofs.Ytledjpdpkbifgaa
/- Walks: how long failures are unseen. Conditions: as each theorem states. -/
namespace Go.Proofs.Ytledjpdpkbifgaa
open Go Go.HL Go.Proofs Go.Wx
variable [Lvl]
set_option maxRecDepth 100000
end Go.Proofs.Ytledjpdpkbifgaa
/- Plain: all lists of so many numbers; the fewest of them that will do. Conditions: as each theorem states. -/
namespace Go.Wx
open Go Go.HL
variable [Lvl]
end Go.Wx
/- Walks: all lists of so many numbers. Conditions: as each theorem states. -/
namespace Go.Proofs.Ytledjpdpkbifgaa
open Go Go.HL Go.Proofs Go.Wx
variable [Lvl]
set_option maxRecDepth 100000
/-- Values that are slices which hold the lists. -/
def LLv (h : AH) (ls : List (List Int)) (vs : List Value) : Prop := vs.length = ls.length ∧ ∀ (i : Nat) l v, ls[i]? = some l → vs[i]? = some v → SlR h 1 intC l v
theorem LLv.ext {h h' : AH} {ls : List (List Int)} {vs : List Value} (x : LLv h ls vs) (E : Ext h h') : LLv h' ls vs := ⟨x.1, fun i l v a b => (x.2 i l v a b).ext E⟩
theorem LLv.nil {h : AH} : LLv h [] [] := ⟨rfl, fun i l v a _ => by simp at a⟩
theorem LLv.snoc {h : AH} {ls : List (List Int)} {vs : List Value} (x : LLv h ls vs) {l : List Int} {v : Value} (s : SlR h 1 intC l v) : LLv h (ls ++ [l]) (vs ++ [v]) := by
  refine ⟨by simp [x.1], fun i l' v' a b => ?_⟩
  by_cases hi : i < ls.length
  · rw [List.getElem?_append_left hi] at a
    rw [List.getElem?_append_left (by rw [x.1]; exact hi)] at b
    exact x.2 i l' v' a b
  · have h1 := (List.getElem?_eq_some_iff.1 a).1
    have hie : i = ls.length := by simp at h1; omega
    subst hie
    rw [List.getElem?_append_right (Nat.le_refl _), Nat.sub_self] at a
    rw [List.getElem?_append_right (by rw [x.1]; exact Nat.le_refl _), x.1, Nat.sub_self] at b
    simp at a b
    subst a b
    exact s
end Go.Proofs.Ytledjpdpkbifgaa
/- Plain: the fewest weeks that will do. Conditions: as each theorem states. -/
namespace Go.Wx
open Go Go.HL
variable [Lvl]
end Go.Wx
/- Walks: the law on weeks in which somebody looks. Conditions: as each theorem states. -/
namespace Go.Proofs.Ytledjpdpkbifgaa
open Go Go.HL Go.Proofs Go.Wx Go.RowKit
variable [Lvl]
set_option maxRecDepth 100000
end Go.Proofs.Ytledjpdpkbifgaa
/- Plain: which weathers there are; another weather; sets and their ends. Conditions: as each theorem states. -/
namespace Go.Wx
open Go Go.HL
variable [Lvl]
theorem skies_at : ∀ (rs : List Rg) (k : Nat) (x y : Sky), k + rs.length ≤ 6 → y ∈ skiesM rs k x → (∀ (i : Nat) r, rs[i]? = some r → r.mn ≤ y.at (k + i) ∧ y.at (k + i) ≤ r.mx) ∧ ∀ i, i < 6 → i < k ∨ k + rs.length ≤ i → y.at i = x.at i
  | [], k, x, y, _, h => by
    rw [skiesM, List.mem_singleton] at h
    subst h
    exact ⟨fun i r hr => by simp at hr, fun _ _ _ => rfl⟩
  | r :: rs, k, x, y, hl, h => by
    rw [List.length_cons] at hl ⊢
    rw [skiesM, List.mem_flatMap] at h
    obtain ⟨n, hn, h⟩ := h
    rw [mem_rangeI] at hn
    obtain ⟨h1, h2⟩ := skies_at rs (k + 1) _ y (by omega) h
    have hk : y.at k = n := by rw [h2 k (by omega) (by omega), Sky.at_set x n (by omega) (by omega), if_pos rfl]
    refine ⟨fun i q hq => ?_, fun i hi hc => ?_⟩
    · cases i with
      | zero => simp at hq; subst hq; rw [Nat.add_zero, hk]; omega
      | succ i =>
        have := h1 i q (by simpa using hq)
        rw [show k + 1 + i = k + (i + 1) by omega] at this
        exact this
    · rw [h2 i hi (by omega), Sky.at_set x n (by omega) hi, if_neg (by omega)]
/-- A weather is one of a season's just if each week is within its range. -/
theorem mem_allSkies {s : Season} {n : Int} (h6 : (weatherM s n).length ≤ 6) {y : Sky} : y ∈ allSkies s n ↔ (∀ (i : Nat) r, (weatherM s n)[i]? = some r → r.mn ≤ y.at i ∧ y.at i ≤ r.mx) ∧ ∀ i, i < 6 → (weatherM s n).length ≤ i → y.at i = 0 := by
  have z : ∀ i, i < 6 → sky0.at i = 0 := fun i hi => by
    match i, hi with
    | 0, _ => rfl
    | 1, _ => rfl
    | 2, _ => rfl
    | 3, _ => rfl
    | 4, _ => rfl
    | 5, _ => rfl
    | i + 6, h => omega
  constructor
  · intro h
    obtain ⟨h1, h2⟩ := skies_at _ 0 sky0 y (by omega) h
    exact ⟨fun i r hr => by have := h1 i r hr; rwa [Nat.zero_add] at this, fun i hi hl => by rw [h2 i hi (by omega), z i hi]⟩
  · rintro ⟨h1, h2⟩
    exact mem_skies _ 0 sky0 (by omega) (fun i r hr => by rw [Nat.zero_add]; exact h1 i r hr) (fun i hi hc => by rw [h2 i hi (by omega), z i hi])
theorem last_le {m m' : Nat} (h : ∀ w', w' < 7 → m'.testBit w' = true → ∃ w, w' ≤ w ∧ w < 7 ∧ m.testBit w = true) (hm : listM m' ≠ []) : (listM m').getLastD 0 ≤ (listM m).getLastD 0 := by
  have hl : (listM m').getLastD 0 ∈ listM m' := by
    rw [List.getLastD_eq_getLast?, List.getLast?_eq_some_getLast hm]
    exact List.getLast_mem hm
  obtain ⟨i, e, hi, hb⟩ := listN_mem hl
  obtain ⟨w, h1, h2, h3⟩ := h i hi hb
  have hmem : ((w : Nat) : Int) ∈ listM m := mem_listN.2 ⟨w, rfl, h2, h3⟩
  have hne : listM m ≠ [] := List.ne_nil_of_mem hmem
  have hg : (w : Int) ≤ (listM m).getLastD 0 := by
    rw [List.getLastD_eq_getLast?, List.getLast?_eq_some_getLast hne, Option.getD_some]
    have hp : (listM m).Pairwise (· < ·) := listN_pair m 7
    obtain ⟨k, hk⟩ := List.mem_iff_getElem?.1 hmem
    obtain ⟨hkl, hke⟩ := List.getElem?_eq_some_iff.1 hk
    rw [List.getLast_eq_getElem, ← hke]
    by_cases hkk : k = (listM m).length - 1
    · subst hkk; exact Int.le_refl _
    · have := List.pairwise_iff_getElem.1 hp k ((listM m).length - 1) hkl (by omega) (by omega)
      omega
  omega
def noSeason : Season := ⟨[], [], [], []⟩
end Go.Wx
/- Walks: another weather; seasons compared. Conditions: as each theorem states. -/
namespace Go.Proofs.Ytledjpdpkbifgaa
open Go Go.HL Go.Proofs Go.Wx
variable [Lvl]
set_option maxRecDepth 100000
theorem seasonR_none {h : AH} : SeasonR h none none none none noSeason :=
  ⟨⟨fun _ h => (by cases h), Rd.nil _ _⟩, ⟨fun _ h => (by cases h), Rd.nil _ _⟩, ⟨fun _ h => (by cases h), Rd.nil _ _⟩, ⟨fun _ h => (by cases h), Rd.nil _ _⟩⟩
end Go.Proofs.Ytledjpdpkbifgaa
/- Walks: seasons compared. Conditions: as each theorem states. -/
namespace Go.Proofs.Ytledjpdpkbifgaa
open Go Go.HL Go.Proofs Go.Wx
variable [Lvl]
set_option maxRecDepth 100000
theorem rgEqD (d : Nat) (a b : Rg) : pev Try.prog (Op.equalIn (d + 2) 36 (.agg #[.int .i64 a.mn, .int .i64 a.mx]) (.agg #[.int .i64 b.mn, .int .i64 b.mx])) = some (decide (a = b)) := by
  have h1 := eq_struct (P := Try.prog) (t := 36) (d := d + 1) (fs := [_, _]) (xs := #[.int .i64 a.mn, .int .i64 a.mx]) (ys := #[.int .i64 b.mn, .int .i64 b.mx]) (rs := [a.mn == b.mn, a.mx == b.mx]) rfl (by kernel_rfl) rfl ?_
  · refine h1.trans ?_
    obtain ⟨a1, a2⟩ := a
    obtain ⟨b1, b2⟩ := b
    simp only [List.all_cons, List.all_nil, id, Bool.and_true, Option.some.injEq]
    rw [Bool.eq_iff_iff]
    simp
  · intro i f r hf hr
    match i, hf, hr with
    | 0, hf, hr => cases hf; cases hr; exact ⟨by decide, _, _, rfl, rfl, eq_int rfl _ _⟩
    | 1, hf, hr => cases hf; cases hr; exact ⟨by decide, _, _, rfl, rfl, eq_int rfl _ _⟩
    | i + 2, hf, hr => simp at hf
theorem rgEq (a b : Rg) : pev Try.prog (Op.equalIn Op.maxDepth 36 (.agg (rgC a).toArray) (.agg (rgC b).toArray)) = some (decide (a = b)) := rgEqD 9998 a b
structure PreS (a b : Season) (p : Bool) : Prop where
  no : p = false → a ≠ b
  yes : p = true → a.heats = b.heats ∧ a.damps = b.damps ∧ a.joints.length = b.joints.length ∧ a.reports.length = b.reports.length
end Go.Proofs.Ytledjpdpkbifgaa
/- Plain: warmer and colder weather. Conditions: as each theorem states. -/
namespace Go.Wx
open Go Go.HL
variable [Lvl]
end Go.Wx
/- Plain: seasons with a report more, and without some. Conditions: as each theorem states. -/
namespace Go.Wx
open Go Go.HL
variable [Lvl]
def withS (s : Season) (r : Seen) : Season := { s with reports := s.reports ++ [r] }
def withE (s : Season) (r : Seen) : Int := if checkM s ≠ 0 then checkM s else if s.reports.length = 5 then 6 else if checkSeenM s r ≠ 0 then checkSeenM s r else if mayM (withS s r) then 0 else 9
def withV (s : Season) (r : Seen) : Season := if withE s r = 0 then withS s r else noSeason
theorem CheckS.b {s : Season} (c : CheckS s) : SeasonB s := (checkM_zero c.ok).b
end Go.Wx
/- Walks: a report more; reports that must be wrong. Conditions: as each theorem states. -/
namespace Go.Proofs.Ytledjpdpkbifgaa
open Go Go.HL Go.Proofs Go.Wx
variable [Lvl]
set_option maxRecDepth 100000
theorem cloneSeenO (l : List Seen) (A : Option Addr) (c : Nat) (h : AH) (R : Row h 3 seenC A l) (hl : l.length < 2 ^ 20) :
    FnM Try.prog (.func (.func 47) #[] ([] : List Value).toArray) [.slice A l.length c] h [] (fun v h' M' => ∃ a : Acc, M' = [a.p] ∧ v = .slice a.A a.n a.c ∧ AccR 50 3 (l.flatMap seenC) a) := by
  cases A with
  | none =>
    have h0 := R.none_nil (by omega)
    subst h0
    refine fnM_body rfl rfl Try.func47 rfl Try.ntmps47 rfl ?_
    refine xp_seq ?_
    refine xp_region rfl ?_
    refine op_pure (pv_assign (v := .slice _ _ _) rfl) ?_
    refine xp_seq ?_
    refine xp_seq ?_
    refine xp_region rfl ?_
    refine op_pure (pv_move (v := .slice _ _ _) rfl) ?_
    refine op_pure (pv_of (v := .bool _) rfl) ?_
    refine xp_cond rfl (fun ht => ?_) (fun ht => ?_)
    · skip
      refine xp_seq ?_
      refine xp_region rfl ?_
      refine op_pure (pv_assign (v := .slice _ _ _) rfl) ?_
      refine xp_ret ?_
      refine res_list (vs := [_]) Try.results47 ⟨resV_tmp rfl rfl, trivial⟩ fun V => ?_
      exact ⟨_, [none], rfl, V, (Ext.refl _), acc0, rfl, rfl, accR0⟩
    · cases ht
  | some a =>
    refine fnM_body rfl rfl Try.func47 rfl Try.ntmps47 rfl ?_
    refine xp_seq ?_
    refine xp_region rfl ?_
    refine op_pure (pv_assign (v := .slice _ _ _) rfl) ?_
    refine xp_seq ?_
    refine xp_seq ?_
    refine xp_region rfl ?_
    refine op_pure (pv_move (v := .slice _ _ _) rfl) ?_
    refine op_pure (pv_of (v := .bool _) rfl) ?_
    refine xp_cond rfl (fun ht => ?_) (fun ht => ?_)
    · cases ht
    · skip
      refine xp_skip ?_
      refine xp_seq ?_
      refine xp_region rfl ?_
      refine op_buildSlice (zc := [_, _, _]) (vs := []) (cs := []) rfl rfl rfl rfl rfl rfl rfl fun b5 hb5 => ?_
      refine wp_norm [_] rfl ?_
      refine op_pure (pv_move (v := .slice _ _ _) rfl) ?_
      refine op_appendR 0 accR_new rfl rfl rfl (fun V => R.2.ext (ext_wl V)) (flat_len R.1) (flat_plain seenP l) rfl rfl rfl rfl rfl rfl rfl (by omega) rfl (by rw [flat_len R.1, List.length_nil]; omega) fun a2 h1a E1a ha2 => ?_
      refine wp_norm [_] rfl ?_
      refine op_pure (pv_assign (v := .slice _ _ _) rfl) ?_
      refine xp_ret ?_
      refine res_list (vs := [_]) Try.results47 ⟨resV_tmp rfl rfl, trivial⟩ fun V => ?_
      exact ⟨_, [_], rfl, V, E1a, a2, rfl, rfl, ha2⟩
/-- A copy of a season, its reports still owned. -/
theorem clone_okM (s : Season) (A0 A1 A2 A3 : Option Addr) (c0 c1 c2 c3 : Nat) (h : AH) (R : SeasonR h A0 A1 A2 A3 s) (h0 : s.heats.length < 2 ^ 20) (h1 : s.damps.length < 2 ^ 20) (h2 : s.joints.length < 2 ^ 20) (h3 : s.reports.length < 2 ^ 20) :
    FnM Try.prog (.func (.func 31) #[] ([] : List Value).toArray) [seasonV A0 A1 A2 A3 c0 c1 c2 c3 s] h [] (fun v h' M' => ∃ (a : Acc) (B0 B1 B2 : Option Addr) (d0 d1 d2 : Nat), M' = [a.p] ∧ v = .agg #[.slice B0 s.heats.length d0, .slice B1 s.damps.length d1, .slice B2 s.joints.length d2, .slice a.A a.n a.c]
      ∧ Row h' 2 rgC B0 s.heats ∧ Row h' 2 rgC B1 s.damps ∧ Row h' 9 jointC B2 s.joints ∧ AccR 50 3 (s.reports.flatMap seenC) a) := by
  refine fnM_body rfl rfl Try.func31 rfl Try.ntmps31 rfl ?_
  refine xp_seq ?_
  refine xp_region rfl ?_
  refine op_box (v := .agg #[.slice _ _ _, .slice _ _ _, .slice _ _ _, .slice _ _ _]) (cs := [_, _, _, _]) rfl rfl fun b1 hb1 => ?_
  refine wp_norm [_] rfl ?_
  refine op_alloc (cs := [_, _, _, _]) rfl rfl fun b2 hb2 => ?_
  refine wp_norm [_, _] rfl ?_
  refine xp_seq ?_
  refine xp_dw [false, false, true] rfl rfl rfl ?_
  refine dw_pure (i := 0) rfl (by decide +kernel) (pv_fieldAddr rfl rfl rfl rfl 0 rfl) ?_
  refine dw_load (i := 1) rfl (by decide +kernel) ?_
  refine op_loadP 0 (v := .slice _ _ _) rfl rfl rfl rfl ?_
  refine dw_pure (i := 3) rfl (by decide +kernel) (pv_fieldAddr rfl rfl rfl rfl 1 rfl) ?_
  refine dw_load (i := 4) rfl (by decide +kernel) ?_
  refine op_loadP 0 (v := .slice _ _ _) rfl rfl rfl rfl ?_
  refine dw_pure (i := 6) rfl (by decide +kernel) (pv_fieldAddr rfl rfl rfl rfl 2 rfl) ?_
  refine dw_load (i := 7) rfl (by decide +kernel) ?_
  refine op_loadP 0 (v := .slice _ _ _) rfl rfl rfl rfl ?_
  refine dw_pure (i := 9) rfl (by decide +kernel) (pv_fieldAddr rfl rfl rfl rfl 3 rfl) ?_
  refine dw_load (i := 10) rfl (by decide +kernel) ?_
  refine op_loadP 0 (v := .slice _ _ _) rfl rfl rfl rfl ?_
  refine dw_eff (i := 2) rfl (by decide +kernel) ?_
  refine op_fn (caps := []) (vs := [.slice _ _ _]) rfl rfl rfl (cloneRg_ok s.heats A0 c0 h (R.heats.ext (Ext.refl _)) h0) ?_
  rintro _ h4 E4 ⟨B0, d0, rfl, R0⟩
  refine ⟨ext_wlm E4 _, ?_⟩
  refine dw_eff (i := 5) rfl (by decide +kernel) ?_
  refine op_fn (caps := []) (vs := [.slice _ _ _]) rfl rfl rfl (cloneRg_ok s.damps A1 c1 h4 (R.damps.ext E4) h1) ?_
  rintro _ h5 E5 ⟨B1, d1, rfl, R1⟩
  refine ⟨ext_wlm E5 _, ?_⟩
  refine dw_eff (i := 8) rfl (by decide +kernel) ?_
  refine op_fn (caps := []) (vs := [.slice _ _ _]) rfl rfl rfl (cloneJoint_ok s.joints A2 c2 h5 (R.joints.ext (Ext.trans E4 E5)) h2) ?_
  rintro _ h6 E6 ⟨B2, d2, rfl, R2⟩
  refine ⟨ext_wlm E6 _, ?_⟩
  refine dw_last (i := 11) rfl (by decide +kernel) (by decide +kernel) ?_
  refine op_fnMM [_, _] [] [] rfl rfl rfl (cloneSeenO s.reports A3 c3 h6 (R.reports.ext (Ext.trans (Ext.trans E4 E5) E6)) h3) ?_
  rintro _ h7 _ E7 ⟨a, rfl, rfl, ha⟩
  refine dw_norm [_, _, _] rfl ?_
  refine dw_pure (i := 12) rfl (by decide +kernel) (pv_build (zc := [_, _, _, _]) (vs := [(0, .slice _ _ _), (1, .slice _ _ _), (2, .slice _ _ _), (3, .slice _ _ _)]) (cs := [_, _, _, _]) rfl rfl rfl rfl rfl rfl) ?_
  refine dw_last (i := 13) rfl (by decide +kernel) (by decide +kernel) ?_
  refine op_storeP 1 (v := .agg #[.slice _ _ _, .slice _ _ _, .slice _ _ _, .slice _ _ _]) (vs := [_, _, _, _]) (c' := [_, _, _, _]) rfl rfl rfl rfl rfl rfl rfl rfl rfl ?_
  refine dw_norm [_, _, _] rfl ?_
  refine dw_end rfl ?_
  refine xp_ret ?_
  refine res_list (vs := [_]) Try.results31 ⟨resV_agg 1 rfl rfl rfl rfl rfl (vs := [.slice _ _ _, .slice _ _ _, .slice _ _ _, .slice _ _ _]) rfl, trivial⟩ fun V => ?_
  obtain ⟨h9, E9, e9, V9⟩ := wl_shed [_, _] [_] V
  exact ⟨h9, _, e9, V9, Ext.trans (Ext.trans (Ext.trans (Ext.trans E4 E5) E6) E7) E9, a, B0, B1, B2, d0, d1, d2, rfl, rfl, R0.ext (Ext.trans (Ext.trans (Ext.trans E5 E6) E7) E9), R1.ext (Ext.trans (Ext.trans E6 E7) E9), R2.ext (Ext.trans E7 E9), ha⟩
set_option maxHeartbeats 2000000 in
theorem With_ok (s : Season) (Sm : Small s) (r : Seen) (A0 A1 A2 A3 : Option Addr) (c0 c1 c2 c3 : Nat) (h : AH) (R : SeasonR h A0 A1 A2 A3 s) :
    FnT Try.prog 11 #[seasonV A0 A1 A2 A3 c0 c1 c2 c3 s, .agg (seenC r).toArray] h (fun v h' => ∃ u, v = .tuple #[u, .int .i64 (withE s r)] ∧ SeasonS h' (withV s r) u) := by
  have Sm0 := Sm.h0
  have Sm2 := Sm.h2
  refine call_body Try.func11 rfl Try.ntmps11 rfl ?_
  refine xp_seq ?_
  refine xp_region rfl ?_
  refine op_box (v := .agg #[.slice _ _ _, .slice _ _ _, .slice _ _ _, .slice _ _ _]) (cs := [_, _, _, _]) rfl rfl fun b2 hb2 => ?_
  refine wp_norm [_] rfl ?_
  refine op_box (v := .agg #[.int .i64 _, .int .i64 _, .bool _]) (cs := [_, _, _]) rfl rfl fun b3 hb3 => ?_
  refine wp_norm [_, _] rfl ?_
  refine op_alloc (cs := [_, _, _, _]) rfl rfl fun b4 hb4 => ?_
  refine wp_norm [_, _, _] rfl ?_
  refine op_pure (pv_assign (v := .int .i64 _) rfl) ?_
  refine xp_seq ?_
  refine xp_seq ?_
  refine xp_region rfl ?_
  refine op_loadPA 0 (vs := [.slice _ _ _, .slice _ _ _, .slice _ _ _, .slice _ _ _]) rfl rfl rfl rfl rfl ?_
  refine op_fn (caps := []) (vs := [.agg #[.slice _ _ _, .slice _ _ _, .slice _ _ _, .slice _ _ _]]) rfl rfl rfl (check_ok s A0 A1 A2 A3 c0 c1 c2 c3 h (R.ext (Ext.refl _)) Sm.h0 Sm.h1 Sm.h2 Sm.h3) ?_
  rintro _ h1 E1 rfl
  refine op_pure (pv_assign (v := .int .i64 _) rfl) ?_
  refine xp_seq ?_
  refine xp_region rfl ?_
  refine op_pure (pv_move (v := .int .i64 _) rfl) ?_
  refine op_pure (pv_of (v := .bool _) rfl) ?_
  refine xp_cond rfl (fun hc => ?_) (fun hc => ?_)
  · skip
    have hc0 : checkM s ≠ 0 := by simpa using hc
    have hE : withE s r = checkM s := by rw [withE, if_pos hc0]
    refine xp_seq ?_
    refine xp_region rfl ?_
    refine op_pure (pv_build (zc := [_, _, _, _]) (vs := []) (cs := [_, _, _, _]) rfl rfl rfl rfl rfl rfl) ?_
    refine op_pure (pv_move (v := .int .i64 _) rfl) ?_
    refine op_storeP 2 (v := .agg #[.slice _ _ _, .slice _ _ _, .slice _ _ _, .slice _ _ _]) (vs := [_, _, _, _]) (c' := [_, _, _, _]) rfl rfl rfl rfl rfl rfl rfl rfl rfl ?_
    refine wp_norm [_, _, _] rfl ?_
    refine op_pure (pv_assign (v := .int .i64 _) rfl) ?_
    refine xp_ret ?_
    refine res_list (vs := [_, _]) Try.results11 ⟨resV_agg 2 rfl rfl rfl rfl rfl (vs := [.slice _ _ _, .slice _ _ _, .slice _ _ _, .slice _ _ _]) rfl, resV_tmp rfl rfl, trivial⟩ fun V => ?_
    exact ⟨(Ext.trans E1 (ext_wl V)), _, by rw [hE]; rfl, none, none, none, none, 0, 0, 0, 0, by rw [withV, hE, if_neg hc0]; rfl, by rw [withV, hE, if_neg hc0]; exact seasonR_none⟩
  · skip
    have hc0 : checkM s = 0 := by simpa using hc
    have C := CheckS.of hc0
    have h6 := C.w6
    have hdl := C.dl
    have j3 := C.j3
    have r5 := C.r5
    refine xp_skip ?_
    refine xp_seq ?_
    refine xp_seq ?_
    refine xp_region rfl ?_
    refine op_pure (pv_fieldAddr rfl rfl rfl rfl 3 rfl) ?_
    refine op_loadP 0 (v := .slice _ _ _) rfl rfl rfl rfl ?_
    refine op_pure (pv_len rfl rfl) ?_
    refine op_pure (pv_of (v := .bool _) rfl) ?_
    refine xp_cond rfl (fun hf => ?_) (fun hf => ?_)
    · skip
      have hf5 : s.reports.length = 5 := by have := of_decide_eq_true hf; omega
      have hE : withE s r = 6 := by rw [withE, if_neg (by simp [hc0]), if_pos hf5]
      refine xp_seq ?_
      refine xp_region rfl ?_
      refine op_pure (pv_build (zc := [_, _, _, _]) (vs := []) (cs := [_, _, _, _]) rfl rfl rfl rfl rfl rfl) ?_
      refine op_storeP 2 (v := .agg #[.slice _ _ _, .slice _ _ _, .slice _ _ _, .slice _ _ _]) (vs := [_, _, _, _]) (c' := [_, _, _, _]) rfl rfl rfl rfl rfl rfl rfl rfl rfl ?_
      refine wp_norm [_, _, _] rfl ?_
      refine op_pure (pv_assign (v := .int .i64 _) rfl) ?_
      refine xp_ret ?_
      refine res_list (vs := [_, _]) Try.results11 ⟨resV_agg 2 rfl rfl rfl rfl rfl (vs := [.slice _ _ _, .slice _ _ _, .slice _ _ _, .slice _ _ _]) rfl, resV_tmp rfl rfl, trivial⟩ fun V => ?_
      exact ⟨(Ext.trans E1 (ext_wl V)), _, by rw [hE]; rfl, none, none, none, none, 0, 0, 0, 0, by rw [withV, hE]; rfl, by rw [withV, hE]; exact seasonR_none⟩
    · skip
      have hf5 : ¬ s.reports.length = 5 := by have := of_decide_eq_false hf; omega
      refine xp_skip ?_
      refine xp_seq ?_
      refine xp_seq ?_
      refine xp_region rfl ?_
      refine op_loadPA 0 (vs := [.slice _ _ _, .slice _ _ _, .slice _ _ _, .slice _ _ _]) rfl rfl rfl rfl rfl ?_
      refine op_loadPA 1 (vs := [.int .i64 _, .int .i64 _, .bool _]) rfl rfl rfl rfl rfl ?_
      refine op_fn (caps := []) (vs := [.agg #[.slice _ _ _, .slice _ _ _, .slice _ _ _, .slice _ _ _], .agg #[.int .i64 _, .int .i64 _, .bool _]]) rfl rfl rfl (checkSeen_ok s r A0 A1 A2 A3 c0 c1 c2 c3 Sm2 Sm0 h1) ?_
      rintro _ h2 E2 rfl
      refine op_pure (pv_assign (v := .int .i64 _) rfl) ?_
      refine xp_seq ?_
      refine xp_region rfl ?_
      refine op_pure (pv_move (v := .int .i64 _) rfl) ?_
      refine op_pure (pv_of (v := .bool _) rfl) ?_
      refine xp_cond rfl (fun hs => ?_) (fun hs => ?_)
      · skip
        have hs0 : checkSeenM s r ≠ 0 := by simpa using hs
        have hE : withE s r = checkSeenM s r := by rw [withE, if_neg (by simp [hc0]), if_neg hf5, if_pos hs0]
        refine xp_seq ?_
        refine xp_region rfl ?_
        refine op_pure (pv_build (zc := [_, _, _, _]) (vs := []) (cs := [_, _, _, _]) rfl rfl rfl rfl rfl rfl) ?_
        refine op_pure (pv_move (v := .int .i64 _) rfl) ?_
        refine op_storeP 2 (v := .agg #[.slice _ _ _, .slice _ _ _, .slice _ _ _, .slice _ _ _]) (vs := [_, _, _, _]) (c' := [_, _, _, _]) rfl rfl rfl rfl rfl rfl rfl rfl rfl ?_
        refine wp_norm [_, _, _] rfl ?_
        refine op_pure (pv_assign (v := .int .i64 _) rfl) ?_
        refine xp_ret ?_
        refine res_list (vs := [_, _]) Try.results11 ⟨resV_agg 2 rfl rfl rfl rfl rfl (vs := [.slice _ _ _, .slice _ _ _, .slice _ _ _, .slice _ _ _]) rfl, resV_tmp rfl rfl, trivial⟩ fun V => ?_
        exact ⟨(Ext.trans (Ext.trans E1 E2) (ext_wl V)), _, by rw [hE]; rfl, none, none, none, none, 0, 0, 0, 0, by rw [withV, hE, if_neg hs0]; rfl, by rw [withV, hE, if_neg hs0]; exact seasonR_none⟩
      · skip
        have hs0 : checkSeenM s r = 0 := by simpa using hs
        have CW : CheckS (withS s r) := ⟨C.w1, C.w6, C.dl, C.h, C.d, C.j3, C.j, by show (s.reports ++ [r]).length ≤ 5; rw [List.length_append, List.length_singleton]; omega, fun q hq => by
          rcases List.mem_append.1 hq with hq | hq
          · exact checkSeen_iff.2 (checkSeen_iff.1 (C.r q hq))
          · rw [List.mem_singleton.1 hq]; exact checkSeen_iff.2 (checkSeen_iff.1 hs0)⟩
        refine xp_skip ?_
        refine xp_seq ?_
        refine xp_region rfl ?_
        refine op_loadPA 0 (vs := [.slice _ _ _, .slice _ _ _, .slice _ _ _, .slice _ _ _]) rfl rfl rfl rfl rfl ?_
        refine op_fnMM [_, _, _] [] [] rfl rfl rfl (clone_okM s A0 A1 A2 A3 c0 c1 c2 c3 h2 (R.ext (Ext.trans E1 E2)) (by omega) (by omega) (by omega) (by omega)) ?_
        rintro _ h3 _ E3 ⟨a, B0, B1, B2, d0, d1, d2, rfl, rfl, R0, R1, R2, ha⟩
        refine wp_norm [_, _, _, _] rfl ?_
        refine op_storeP 0 (v := .agg #[.slice _ _ _, .slice _ _ _, .slice _ _ _, .slice _ _ _]) (vs := [_, _, _, _]) (c' := [_, _, _, _]) rfl rfl rfl rfl rfl rfl rfl rfl rfl ?_
        refine wp_norm [_, _, _, _] rfl ?_
        refine xp_seq ?_
        refine xp_region rfl ?_
        refine op_pure (pv_fieldAddr rfl rfl rfl rfl 3 rfl) ?_
        refine op_loadP 0 (v := .slice _ _ _) rfl rfl rfl rfl ?_
        refine op_loadPA 1 (vs := [.int .i64 _, .int .i64 _, .bool _]) rfl rfl rfl rfl rfl ?_
        refine op_buildSlice (zc := [_, _, _]) (vs := [(0, .agg #[.int .i64 _, .int .i64 _, .bool _])]) (cs := [_, _, _]) rfl rfl rfl rfl rfl rfl rfl fun b33 hb33 => ?_
        refine wp_norm [_, _, _, _, _] rfl ?_
        refine op_appendR 3 ha rfl rfl rfl (fun V => rdP V (i := 4) rfl) rfl rfl rfl rfl rfl rfl rfl rfl rfl (by omega) rfl (by rw [flat_len (m := 3) (fun _ _ => rfl)]; simp; omega) fun a2 h1a E1a ha2 => ?_
        refine wp_norm [_, _, _, _, _] rfl ?_
        obtain ⟨p7, A7, n7, c7⟩ := a2
        obtain rfl : n7 = (withS s r).reports.length := by have := AccR.len ha2; rw [List.length_append, flat_len (m := 3) (fun _ _ => rfl)] at this; simp [withS] at this ⊢; omega
        dsimp only
        refine op_pure (pv_fieldAddr rfl rfl rfl rfl 3 rfl) ?_
        refine op_storeP 0 (v := .slice _ _ _) (vs := [_]) (c' := [_, _, _, _]) rfl rfl rfl rfl rfl rfl rfl rfl rfl ?_
        refine wp_norm [_, _, _, _, _] rfl ?_
        refine goes_pubO 3 rfl ?_
        intro g7 G7 P7
        refine goes_norm [_, _, _, _, _] rfl ?_
        have RW : SeasonR g7 B0 B1 B2 A7 (withS s r) := ⟨R0.ext (Ext.trans E1a G7), R1.ext (Ext.trans E1a G7), R2.ext (Ext.trans E1a G7), ⟨fun _ _ => rfl, by have := AccR.rd ha2 P7; rw [show (withS s r).reports = s.reports ++ [r] from rfl, List.flatMap_append]; exact this⟩⟩
        refine xp_seq ?_
        refine xp_seq ?_
        refine xp_region rfl ?_
        refine op_loadPA 0 (vs := [.slice _ _ _, .slice _ _ _, .slice _ _ _, .slice _ _ _]) rfl rfl rfl rfl rfl ?_
        refine op_fn (caps := []) (vs := [.agg #[.slice _ _ _, .slice _ _ _, .slice _ _ _, .slice _ _ _]]) rfl rfl rfl (bothOf_ok (withS s r) CW.b B0 B1 B2 A7 d0 d1 d2 c7 g7 RW) ?_
        rintro _ h8 E8 ⟨_, rfl, A, c, mf, fm, fl, A', c', mf', fm', fl', rfl, X, X'⟩
        refine op_pure (pv_move (v := .tuple #[.agg #[.slice _ _ _, .map _, .map _, .map _, .map _, .slice _ _ _, .map _, .map _, .map _, .map _], .bool _]) rfl) ?_
        refine op_pure (pv_of (v := .agg #[.slice _ _ _, .map _, .map _, .map _, .map _, .slice _ _ _, .map _, .map _, .map _, .map _]) rfl) ?_
        refine op_pure (pv_of (v := .bool _) rfl) ?_
        refine op_alloc (cs := [_, _, _, _, _, _, _, _, _, _]) rfl rfl fun b8 hb8 => ?_
        refine wp_norm [_, _, _, _, _, _] rfl ?_
        refine op_storeP 5 (v := .agg #[.slice _ _ _, .map _, .map _, .map _, .map _, .slice _ _ _, .map _, .map _, .map _, .map _]) (vs := [_, _, _, _, _, _, _, _, _, _]) (c' := [_, _, _, _, _, _, _, _, _, _]) rfl rfl rfl rfl rfl rfl rfl rfl rfl ?_
        refine wp_norm [_, _, _, _, _, _] rfl ?_
        refine op_pure (pv_assign (v := .bool _) rfl) ?_
        refine xp_seq ?_
        refine xp_region rfl ?_
        refine op_pure (pv_move (v := .bool _) rfl) ?_
        refine op_pure (pv_of (v := .bool _) rfl) ?_
        refine xp_cond rfl (fun hm => ?_) (fun hm => ?_)
        · skip
          have hm0 : mayM (withS s r) = false := by simpa using hm
          have hE : withE s r = 9 := by rw [withE, if_neg (by simp [hc0]), if_neg hf5, if_neg (by simp [hs0]), hm0]; rfl
          refine xp_seq ?_
          refine xp_region rfl ?_
          refine op_pure (pv_build (zc := [_, _, _, _]) (vs := []) (cs := [_, _, _, _]) rfl rfl rfl rfl rfl rfl) ?_
          refine op_storeP 2 (v := .agg #[.slice _ _ _, .slice _ _ _, .slice _ _ _, .slice _ _ _]) (vs := [_, _, _, _]) (c' := [_, _, _, _]) rfl rfl rfl rfl rfl rfl rfl rfl rfl ?_
          refine wp_norm [_, _, _, _, _, _] rfl ?_
          refine op_pure (pv_assign (v := .int .i64 _) rfl) ?_
          refine xp_ret ?_
          refine res_list (vs := [_, _]) Try.results11 ⟨resV_agg 2 rfl rfl rfl rfl rfl (vs := [.slice _ _ _, .slice _ _ _, .slice _ _ _, .slice _ _ _]) rfl, resV_tmp rfl rfl, trivial⟩ fun V => ?_
          exact ⟨(Ext.trans (Ext.trans (Ext.trans (Ext.trans (Ext.trans (Ext.trans E1 E2) E3) E1a) G7) E8) (ext_wl V)), _, by rw [hE]; rfl, none, none, none, none, 0, 0, 0, 0, by rw [withV, hE]; rfl, by rw [withV, hE]; exact seasonR_none⟩
        · skip
          have hm0 : mayM (withS s r) = true := by simpa using hm
          have hE : withE s r = 0 := by rw [withE, if_neg (by simp [hc0]), if_neg hf5, if_neg (by simp [hs0]), hm0]; rfl
          refine xp_skip ?_
          refine xp_seq ?_
          refine xp_region rfl ?_
          refine op_loadPA 0 (vs := [.slice _ _ _, .slice _ _ _, .slice _ _ _, .slice _ _ _]) rfl rfl rfl rfl rfl ?_
          refine op_storeP 2 (v := .agg #[.slice _ _ _, .slice _ _ _, .slice _ _ _, .slice _ _ _]) (vs := [_, _, _, _]) (c' := [_, _, _, _]) rfl rfl rfl rfl rfl rfl rfl rfl rfl ?_
          refine wp_norm [_, _, _, _, _, _] rfl ?_
          refine op_pure (pv_assign (v := .int .i64 _) rfl) ?_
          refine xp_ret ?_
          refine res_list (vs := [_, _]) Try.results11 ⟨resV_agg 2 rfl rfl rfl rfl rfl (vs := [.slice _ _ _, .slice _ _ _, .slice _ _ _, .slice _ _ _]) rfl, resV_tmp rfl rfl, trivial⟩ fun V => ?_
          exact ⟨(Ext.trans (Ext.trans (Ext.trans (Ext.trans (Ext.trans (Ext.trans E1 E2) E3) E1a) G7) E8) (ext_wl V)), _, by rw [hE]; rfl, B0, B1, B2, A7, d0, d1, d2, c7, by rw [withV, if_pos hE]; rfl, by rw [withV, if_pos hE]; exact RW.ext (Ext.trans E8 (ext_wl V))⟩
end Go.Proofs.Ytledjpdpkbifgaa
/- Walks: the fewest reports that must be wrong. Conditions: as each theorem states. -/
namespace Go.Proofs.Ytledjpdpkbifgaa
open Go Go.HL Go.Proofs Go.Wx
variable [Lvl]
set_option maxRecDepth 100000
theorem index_ok (l : List Int) (z : Int) (A : Option Addr) (c : Nat) (h : AH) (R : Row h 1 intC A l) (hl : l.length < 2 ^ 40) :
    FnT Try.prog 56 #[.slice A l.length c, .int .i64 z] h (fun v _ => ∃ i : Int, v = .int .i64 i ∧ decide (i ≥ 0) = decide (z ∈ l)) := by
  refine call_body Try.func56 rfl Try.ntmps56 rfl ?_
  refine xp_seq ?_
  refine xp_region rfl ?_
  refine op_pure (pv_assign (v := .int .i64 _) rfl) ?_
  refine xp_seq ?_
  refine xp_seq ?_
  refine xp_region rfl ?_
  refine op_pure (pv_move (v := .slice _ _ _) rfl) ?_
  refine op_pure (pv_len rfl rfl) ?_
  refine op_pure (pv_move (v := .int .i64 _) rfl) ?_
  refine xp_block ?_
  refine xp_loopB [4, 5, 8, 9, 10, 11, 12, 13, 14, 15, 16, 17, 18] 0 (α := Nat) (fun k => [(8, .int .i64 k)]) (fun k => _) (fun k h_k => k ≤ l.length ∧ z ∉ l.take k) (fun k => l.length - k) (0) ⟨rfl, trivial⟩ (rfl) (⟨Nat.zero_le _, by simp⟩) ?_
  rintro k T1 h_k E_k J_k
  refine goes_norm [] rfl ?_
  obtain ⟨K1, K2⟩ := J_k
  refine xp_seq ?_
  refine xp_region rfl ?_
  refine op_pure (pv_of (v := .bool _) rfl) ?_
  refine xp_seq ?_
  refine xp_cond rfl (fun hk => ?_) (fun hk => ?_)
  · skip
    have hkl : k < l.length := ltI hk
    obtain ⟨g, off, hA, hc⟩ := (R.ext E_k).at (by omega) hkl
    refine xp_skip ?_
    refine xp_seq ?_
    refine xp_block ?_
    refine xp_seq ?_
    refine xp_region rfl ?_
    refine op_pure (pv_move (v := .int .i64 _) rfl) ?_
    refine op_pure (pv_assign (v := .int .i64 _) rfl) ?_
    refine xp_seq ?_
    refine xp_region rfl ?_
    refine op_pure (pv_move (v := .int .i64 _) rfl) ?_
    refine op_pure (pv_move (v := .slice _ _ _) rfl) ?_
    refine op_pure (pv_move (v := .int .i64 _) rfl) ?_
    refine op_pure (pv_indexE rfl hA rfl rfl rfl (by omega) (by omega)) ?_
    refine op_load (v := .int .i64 _) rfl rfl ((hc) 0 _ rfl) ?_
    refine op_pure (pv_of (v := .bool _) rfl) ?_
    refine xp_cond rfl (fun he => ?_) (fun he => ?_)
    · skip
      have he' : z = l[k] := by simpa using he
      have hz : z ∈ l := by rw [he']; exact List.getElem_mem hkl
      refine xp_seq ?_
      refine xp_region rfl ?_
      refine op_pure (pv_move (v := .int .i64 _) rfl) ?_
      refine op_pure (pv_assign (v := .int .i64 _) rfl) ?_
      refine xp_ret ?_
      refine res_list (vs := [_]) Try.results56 ⟨resV_tmp rfl rfl, trivial⟩ fun V => ?_
      exact ⟨(Ext.trans E_k (ext_wl V)), k, rfl, by rw [decide_eq_true hz]; exact decide_eq_true (by omega)⟩
    · skip
      have he' : ¬ z = l[k] := by simpa using he
      refine xp_skip ?_
      refine xp_region rfl ?_
      refine op_pure (pv_arith rfl (by omega)) ?_
      refine op_pure (pv_move (v := .int .i64 _) rfl) ?_
      refine ⟨k + 1, ⟨rfl, trivial⟩, rfl, rfl, E_k, fun h3 E3 => ⟨hkl, by rw [take_snoc hkl, List.mem_append, List.mem_singleton]; exact fun h => h.elim K2 he'⟩, by first | omega | (dsimp only; omega), ?_⟩
      repeat (first | exact off_base _ _ _ | refine off_upd (by decide) ?_ | refine off_updL rfl ?_ | refine off_mix rfl ?_)
  · skip
    have hke : k = l.length := by have := geI hk; omega
    subst hke
    rw [List.take_length] at K2
    refine xp_exit ?_
    refine xp_seq ?_
    refine xp_region rfl ?_
    refine op_pure (pv_assign (v := .int .i64 _) rfl) ?_
    refine xp_ret ?_
    refine res_list (vs := [_]) Try.results56 ⟨resV_tmp rfl rfl, trivial⟩ fun V => ?_
    exact ⟨(Ext.trans E_k (ext_wl V)), -1, rfl, by rw [decide_eq_false K2]; rfl⟩
theorem contains_ok (l : List Int) (z : Int) (A : Option Addr) (c : Nat) (h : AH) (R : Row h 1 intC A l) (hl : l.length < 2 ^ 40) :
    FnT Try.prog 40 #[.slice A l.length c, .int .i64 z] h (fun v _ => v = .bool (decide (z ∈ l))) := by
  refine call_body Try.func40 rfl Try.ntmps40 rfl ?_
  refine xp_seq ?_
  refine xp_region rfl ?_
  refine op_pure (pv_assign (v := .bool _) rfl) ?_
  refine xp_seq ?_
  refine xp_region rfl ?_
  refine op_pure (pv_move (v := .slice _ _ _) rfl) ?_
  refine op_pure (pv_move (v := .int .i64 _) rfl) ?_
  refine op_fn (caps := []) (vs := [.slice _ _ _, .int .i64 _]) rfl rfl rfl (index_ok l z A c h R hl) ?_
  rintro _ h1 E1 ⟨i, rfl, hi⟩
  refine op_pure (pv_of (v := .bool _) rfl) ?_
  refine op_pure (pv_assign (v := .bool _) rfl) ?_
  refine xp_ret ?_
  refine res_list (vs := [_]) Try.results40 ⟨resV_tmp rfl rfl, trivial⟩ fun V => ?_
  exact ⟨(Ext.trans E1 (ext_wl V)), congrArg Value.bool hi⟩
end Go.Proofs.Ytledjpdpkbifgaa
/- The own logic, part HB: a go statement in a callee that hands the channel to its caller: the rest of both is one phase. Conditions: none. -/
namespace Go.HL
open Go Go.Conc
variable [Lvl]
/-- What goes on from here comes to Q. -/
def GoQ (P : Program) (n : Nat) (Q : Frame → List Frame → AH → Prop) (b : Frame) (items : List Item) (cs : List Frame) (S : Sl) (L : Pv) (h : AH) : Prop :=
  ∀ H, Fits h L [] H → Rch P Q (mk b n S [] items) cs H
section
variable {P : Program} {n : Nat} {Q : Frame → List Frame → AH → Prop} {b : Frame} {cs : List Frame} {S : Sl} {L : Pv} {h : AH} {k : List Item}
theorem goq_valid {items : List Item} (g : Valid h L → GoQ P n Q b items cs S L h) : GoQ P n Q b items cs S L h := fun H V => g V.valid H V
theorem goq_norm {items : List Item} (L' : Pv) (hL : L = L') (g : GoQ P n Q b items cs S L' h) : GoQ P n Q b items cs S L h := by subst hL; exact g
theorem goq_seq {x y : Code} (g : GoQ P n Q b (.code x :: .code y :: k) cs S L h) : GoQ P n Q b (.code (.seq x y) :: k) cs S L h := fun H V =>
  .ctl (fr' := mk b n S [] (.code x :: .code y :: k)) (cs' := cs) (fun main w => by simp [stepG, stepG.exec, mk]) (g H V)
theorem goq_goes {items : List Item} (hb : b.roundOf = none) (g : Goes P n none items (fun e S' D' L' h' => e = .normal ∧ D' = [] ∧ GoQ P n Q b k cs S' L' h') S [] L h) : GoQ P n Q b (items ++ k) cs S L h := by
  intro H V
  refine (g H V b hb k cs).bind ?_
  rintro fr cs' H' ⟨rfl, e, S', D', L', h', V', ⟨rfl, rfl, g'⟩, a⟩
  have a' : fr = mk b n S' [] k := a
  subst a'
  exact g' H' V'
theorem goq_code {c : Code} (hb : b.roundOf = none) (x : xp P n none c (fun e S' D' L' h' => e = .normal ∧ D' = [] ∧ GoQ P n Q b k cs S' L' h') S [] L h) : GoQ P n Q b (.code c :: k) cs S L h := goq_goes (items := [.code c]) hb x
theorem goq_region {id : Nat} {ops : Array Oper} (g : GoQ P n Q b (.inRegion ops (List.range ops.size) :: k) cs S L h) : GoQ P n Q b (.code (.region id ops false) :: k) cs S L h := fun H V =>
  .ctl (fr' := mk b n S [] (.inRegion ops (List.range ops.size) :: k)) (cs' := cs) (fun main w => by simp [stepG, stepG.exec, mk]) (g H V)
theorem goq_end {ops : Array Oper} (g : GoQ P n Q b k cs S L h) : GoQ P n Q b (.inRegion ops [] :: k) cs S L h := fun H V =>
  .ctl (fr' := mk b n S [] k) (cs' := cs) (fun main w => by simp [stepG, stepG.exec, mk]) (g H V)
theorem goq_op {ops : Array Oper} {i : Nat} {rest : List Nat} {o : Oper} (ho : ops[i]? = some o) (hc : Op.calm o.op) (hw : Region.wanted o (yielded ops (arr n S)) = true)
    (r : opL P n o S L h (fun v L' h' => GoQ P n Q b (.inRegion ops rest :: k) cs (put S o.dst v) L' h') (fun _ _ _ => False)) : GoQ P n Q b (.inRegion ops (i :: rest) :: k) cs S L h := by
  intro H V
  refine (rch_op ho hc hw r V b k cs).bind ?_
  rintro fr cs' H' ⟨rfl, ⟨v, L', h', rfl, V', g⟩ | ⟨v, L', h', rfl, V', g⟩⟩
  · exact g H' V'
  · exact g.elim
theorem goq_pv {ops : Array Oper} {i : Nat} {rest : List Nat} {d : Option Tmp} {op : Op} {ty : TypeId} {ps : String} {af : Array Edge} {v : Value} (ho : ops[i]? = some ⟨d, op, ty, ps, af, none⟩) (hc : Op.calm op)
    (hv : pev P (execOp (ev n S) ⟨d, op, ty, ps, af, none⟩) = some (.value v)) (g : GoQ P n Q b (.inRegion ops rest :: k) cs (put S d v) L h) : GoQ P n Q b (.inRegion ops (i :: rest) :: k) cs S L h :=
  goq_op ho hc (by simp [Region.wanted]) (fun V => dem_pev hv ⟨L, h, rfl, V, g⟩)
/-- A region of two operations, of which the second is by hand. -/
theorem goq_region1 {id : Nat} {o0 o1 : Oper} (hc : Op.calm o0.op) (hg : o0.guard = none) (w : wpL P n #[o0, o1] [o0] (fun S' L' h' => GoQ P n Q b (.inRegion #[o0, o1] [1] :: k) cs S' L' h') (fun _ _ _ _ => False) S L h) :
    GoQ P n Q b (.code (.region id #[o0, o1] false) :: k) cs S L h := by
  refine goq_region ?_
  show GoQ P n Q b (.inRegion #[o0, o1] [0, 1] :: k) cs S L h
  unfold wpL at w
  rw [hg] at w
  refine goq_op (o := o0) rfl hc (by simp [Region.wanted, hg]) (fun V => opW_mono ?_ ?_ (w V))
  · rintro v H ⟨L', h', rfl, V', w'⟩; exact ⟨L', h', rfl, V', w'⟩
  · rintro v H ⟨L', h', rfl, V', w'⟩; exact ⟨L', h', rfl, V', w'⟩
/-- A call, and all that is behind it. -/
theorem goq_enter {ops : Array Oper} {i : Nat} {rest : List Nat} {d : Option Tmp} {ty : TypeId} {ps : String} {af : Array Edge} {x : Operand} {xs : List Operand} {ats : Array TypeId} {g : FuncId} {vs : List Value} {fn : Func} {c : Code} {n2 : Nat}
    (ho : ops[i]? = some ⟨d, .call ⟨.value x, xs.toArray, ats⟩, ty, ps, af, none⟩) (hf : ev n S x = .func (.func g) #[] ([] : List Value).toArray) (hc : callable P g = true) (hx : xs.map (ev n S) = vs)
    (hg : P.funcs[g]? = some fn) (hb : fn.body = some c) (hn : fn.ntmps = n2) (ha : Nat.ble vs.toArray.size n2 = true)
    (r : GoQ P n2 Q { (default : Frame) with fn := g, kind := .normal, roundOf := none } [.code c] (mk b n S [] (.inRegion ops (i :: rest) :: k) :: cs) (argS vs.toArray) L h) :
    GoQ P n Q b (.inRegion ops (i :: rest) :: k) cs S L h := by
  intro H V
  have r1 : dem P (execOp (ev n S) ⟨d, .call ⟨.value x, xs.toArray, ats⟩, ty, ps, af, none⟩) H (fun y H' => y = .enter g vs.toArray ∧ H' = H) noE := by
    have hx2 : xs.map (ev n S) ++ ([] : List Value) = vs := by rw [List.append_nil]; exact hx
    rw [exec_call (caps := []) (vs := vs) hf hx2]
    exact dem_callFunc hc ⟨rfl, rfl⟩
  refine .sem (execOp (ev n S) ⟨d, .call ⟨.value x, xs.toArray, ats⟩, ty, ps, af, none⟩) (fun y => match y with | .enter _ _ => True | _ => False) (fun _ => False)
    (fun y => match y with
      | .enter f args => (Frame.enter P f args .normal, mk b n S [] (.inRegion ops (i :: rest) :: k) :: cs)
      | _ => (b, cs))
    (fun _ => (b, cs)) (fun y H' => y = .enter g vs.toArray ∧ H' = H) noE ?_ r1 ?_ (fun _ _ y => y) ?_ (fun _ _ y => y.elim)
  · intro main w
    have hg2 := stepG_mk_op (P := P) (n := n) b S [] ops i rest k cs _ ho (by trivial) (by simp [Region.wanted]) main w
    refine ⟨fun y w' hr hy => ?_, fun v w' hr y => y.elim⟩
    rw [hg2]
    cases y <;> first | exact hy.elim | (simp only [stepG.apply, Sem.runT_eq, hr, if_true, tells_after, tells_go]; refine ⟨⟨?_, ?_, ?_⟩, ?_⟩ <;> first | trivial | rfl | exact seen_if _ _ _ _ | exact fun _ he => absurd he (by simp))
  · rintro y H' ⟨rfl, _⟩; exact trivial
  · rintro y H' ⟨rfl, rfl⟩
    have he : ∀ args : Array Value, Nat.ble args.size n2 = true → Frame.enter P g args .normal = mk { (default : Frame) with fn := g, kind := .normal, roundOf := none } n2 (argS args) [] [.code c] := by
      intro args ha
      simp [Frame.enter, mk, hg, hb, hn, enter_tmps n2 args (Nat.le_of_ble_eq_true ha)]
    show Rch P Q (Frame.enter P g vs.toArray .normal) _ H'
    rw [he _ ha]
    exact r H' V
/-- The way back to the caller. -/
theorem goq_ret {f : FuncId} {fn : Func} {bT : Frame} {n0 : Nat} {S0 : Sl} {ops : Array Oper} {i : Nat} {rest : List Nat} {o : Oper} (hf : P.funcs[f]? = some fn) (hbf : bT.fn = f) (hbk : bT.kind = .normal) (hbr : bT.roundOf = none) (ho : ops[i]? = some o)
    (r : RetOK P n fn (fun v H' => H' = wl h L ∧ GoQ P n0 Q b (.inRegion ops rest :: k) cs (put S0 o.dst v) L h) S [] L h) :
    GoQ P n Q bT [.code .ret] (mk b n0 S0 [] (.inRegion ops (i :: rest) :: k) :: cs) S L h := by
  intro H V
  obtain ⟨ha, d⟩ := RetOK.all r V.valid
  have hr := ret_run (E := noE) hf (mk b n0 S0 [] (.inRegion ops (i :: rest) :: k)) cs bT hbf hbk S L [.code .ret] [] h H V ha d
  refine .ctl (fr' := { mk bT n S [] [.code .ret] with mode := .returning }) (cs' := mk b n0 S0 [] (.inRegion ops (i :: rest) :: k) :: cs) (fun main w => by simp [stepG, stepG.exec, mk, hbr]) (hr.bind ?_)
  rintro fr cs' H' ⟨rfl, ⟨v, rfl, rfl, g⟩ | ⟨v, _, y⟩⟩
  · rw [mk_finish b S0 [] ops i rest k o ho]
    exact g _ (Fits.nil V.valid)
  · exact y.elim
/-- From a whole to the caller's rule. -/
theorem goes_goq {ro : Option Nat} {items : List Item} {K : Post} (hD : ∀ H, Fits h L [] H → ∀ b : Frame, b.roundOf = ro → ∀ (k : List Item) (cs : List Frame),
      GoQ P n (fun fr cs' H' => cs' = cs ∧ ∃ e S' D' L' h', Fits h' L' D' H' ∧ K e S' D' L' h' ∧ AtX b n k e S' D' fr) b (items ++ k) cs S L h) : Goes P n ro items K S [] L h :=
  fun H V b hb k cs => hD H V b hb k cs H V
/-- .. and back: what an ordinary walk of the rest comes to. -/
theorem goq_last {items : List Item} {K : Post} (hb : b.roundOf = none) (g : Goes P n none items K S [] L h)
    (hq : ∀ fr H' e S' D' L' h', Fits h' L' D' H' → K e S' D' L' h' → AtX b n k e S' D' fr → Q fr cs H') : GoQ P n Q b (items ++ k) cs S L h := by
  intro H V
  refine (g H V b hb k cs).mono ?_
  rintro fr cs' H' ⟨rfl, e, S', D', L', h', V', kk, a⟩
  exact hq _ _ _ _ _ _ _ V' kk a
end
/-- A go statement, and all that follows it, in whatever frames. -/
theorem goq_phase {P : Program} {n : Nat} {Q QM : Frame → List Frame → AH → Prop} {b : Frame} {cs : List Frame} {S : Sl} {L : Pv} {h : AH} {k : List Item} {ops : Array Oper} {i : Nat} {o : Oper} {x : Operand} {f : FuncId} {fs cap : Array Value} {c : Nat} {tm : Bool} {hm hw R : AH} {vs : List Value} {cw : List Frame} {WorkEnd : Frame → AH → Prop} {L1 : Pv} {h1 : AH} {s0 r0 : Nat}
    (hl : Lvl.ph = true) (ho : ops[i]? = some o) (hwt : Region.wanted o (yielded ops (arr n S)) = true) (hop : o.op = .go { callee := .value x, args := #[], argTypes := #[] }) (hx : ev n S x = .func (.func f) fs cap)
    (rows : OnlyRows R) (mw : Disj hm hw) (mR : Disj hm R) (wR : Disj hw R) (hmc : hm c = none) (hwc : hw c = none) (hRc : R c = none)
    (split : Valid h L → wl h L = hun hm (hun hw (hun R (oneC c (.chan 0 #[] false s0 r0 tm)))))
    (V1 : Valid h1 L1) (e1 : wl h1 L1 = hun hm (zw R c vs))
    (gm : @GoQ ⟨false, none, some c⟩ P n QM b (.inRegion ops [] :: k) cs (put S o.dst undef) L1 h1)
    (hQM : ∀ fr cs' H', QM fr cs' H' → ∃ hm', H' = hun hm' (zx R c) ∧ hm' c = none ∧ Disj hm' R)
    (close : ∀ fr hw', WorkEnd fr hw' → mayWake P (G fr cw) = true ∧ ∃ (g2 : Goroutine) (es : Array Event) (n : Nat), (∀ (w : World) s r, w.heap[c]? = some (.chan 0 #[] false s r tm) → stepG P false (G fr cw) w = .go g2 (w.shut c s r tm) (es.push ⟨.obj c, true, true⟩)) ∧ (∀ e ∈ es, e = ⟨.obj c, false, true⟩) ∧ QuitsD P n 0 g2)
    (rW : RW P c (QW R c cw WorkEnd) (baseG P [{ target := .fn (.func f) cap, args := fs }]) [] (hun hw (zw R c vs)))
    (join : ∀ fr cs' hm' fr' hw' s r, QM fr cs' (hun hm' (zx R c)) → WorkEnd fr' hw' → Disj hm' hw' → Disj hm' R → Disj hw' R → hm' c = none → hw' c = none → Fin (hun hm' (hun hw' (hun R (oneC c (.chan 0 #[] true s r tm))))) → Q fr cs' (hun hm' (hun hw' (hun R (oneC c (.chan 0 #[] true s r tm)))))) :
    GoQ P n Q b (.inRegion ops [i] :: k) cs S L h := by
  intro H V
  have hH := wl_of V rfl
  rw [split V.valid] at hH
  have rM := gm (wl h1 L1) (Fits.nil V1)
  rw [e1] at rM
  have cert : Cert P R c tm cw QM WorkEnd := by
    refine ⟨rows, ?_, close⟩
    rintro fr cs' H' q
    obtain ⟨hm', rfl, e3, _⟩ := hQM _ _ _ q
    exact zx_c e3
  have toX : ∀ {fr' : Frame} {hw' : AH} {s r : Nat} {fr : Frame} {cs' : List Frame} {hm' : AH}, QM fr cs' (hun hm' (zx R c)) → WorkEnd fr' hw' → Disj hm' hw' → Disj hm' R → Disj hw' R → hm' c = none → hw' c = none →
      Fin (hun hm' (hun hw' (hun R (oneC c (.chan 0 #[] true s r tm))))) → Q fr cs' (hun hm' (hun hw' (hun R (oneC c (.chan 0 #[] true s r tm))))) :=
    fun q hW d1 d2 d3 n1 n2 fin => join _ _ _ _ _ _ _ q hW d1 d2 d3 n1 n2 fin
  refine .far hl (fun fr cs' H' => Q fr cs' H')
    (Far.mono (X := fun fr cs' H' => Fin H' ∧ (Fin H' → Q fr cs' H')) (Far.fin ?_) (fun _ _ _ q => q.2 q.1)) ?_ (fun _ _ _ q => .done q)
  · rw [hH]
    refine far_phase (cw := cw) (vs := vs) cert ?_ (fun w => ?_) rM rW mw mR wR hmc hwc hRc
    · intro fr cs' hm' fr' hw' s r q hW d1 d2 d3 n1 n2 _ fin
      exact toX q hW d1 d2 d3 n1 n2 fin
    · exact step_go ho hwt hop hx
  · intro F fF dF fH
    rw [hH] at dF fH
    have oneD : ∀ {A : AH} {g : Obj}, A c = none → Disj A (oneC c g) := by
      intro A g hA y
      by_cases hy : y = c
      · subst hy; exact .inl hA
      · exact .inr (oneC_ne hy)
    have zfD : ∀ {A : AH}, Disj A R → Disj A (zf R) := fun d y => (d y).imp id zf_none.2
    have fone : ∀ g, Fin (oneC c g) := fun g => Fin.hupd ⟨0, fun _ _ => rfl⟩ _ _
    obtain ⟨dm, d1⟩ := dF.of_hun
    obtain ⟨dw, d2⟩ := d1.of_hun
    obtain ⟨dR, dC⟩ := d2.of_hun
    have cF : F c = none := (dC c).resolve_left (by rw [oneC_same]; simp)
    have fm : Fin hm := fH.left
    have fr0 := Fin.rest (mw.hun (mR.hun (oneD hmc))) fH
    have fw : Fin hw := fr0.left
    have fR : Fin R := (Fin.rest (wR.hun (oneD hwc)) fr0).left
    have fzf : Fin (zf R) := fR.imp fun _ hN y hy => zf_none.2 (hN y hy)
    have fz : ∀ g, Fin (hun (oneC c g) (zf R)) := fun g => (fone g).hun fzf
    have zD : ∀ {A : AH} {g : Obj}, Disj A R → A c = none → Disj A (hun (oneC c g) (zf R)) := fun d hA => (oneD hA).hun (zfD d)
    have W1 : ∃ fr cs h, Fin h ∧ ∃ h1, h = hun h1 (hun hm F) ∧ Disj h1 (hun hm F) ∧ QW R c cw WorkEnd fr cs h1 := by
      letI : Lvl := ⟨false, some c, none⟩
      exact (rW.frame (F := hun hm F) ((Disj.hun_left (mw.symm.hun dw) ((zD mR hmc).symm.hun (zD dR.symm cF).symm)))).some ((fw.hun (fz _)).hun (fm.hun fF))
    obtain ⟨fr1, cs1, h2, f2, h1', rfl, d3, rfl, hw', rfl, n2, wR', hW⟩ := W1
    obtain ⟨d4, _⟩ := d3.of_hun
    obtain ⟨d5, d6⟩ := d4.of_hun_right
    have fw' : Fin hw' := f2.left.left
    have dd : Disj (hun hm (zw R c vs)) (hun hw' F) := (Disj.hun_left (d5.symm.hun dm) ((zD wR' n2).symm.hun (zD dR.symm cF).symm))
    have M1 := @Rch.some ⟨false, none, some c⟩ P _ _ _ _ (@Rch.frame ⟨false, none, some c⟩ P _ _ _ _ rM (hun hw' F) dd) ((fm.hun (fz _)).hun (fw'.hun fF))
    obtain ⟨fr2, cs2, h4, f4, h3, rfl, d7, q⟩ := M1
    obtain ⟨hm', e4, e3, d8⟩ := hQM _ _ _ q
    subst e4
    obtain ⟨d9, _⟩ := d7.of_hun
    obtain ⟨d10, d11⟩ := d9.of_hun_right
    have fm' : Fin hm' := f4.left.left
    have fin : Fin (hun hm' (hun hw' (hun R (oneC c (.chan 0 #[] true 0 0 tm))))) := fm'.hun (fw'.hun (fR.hun (fone _)))
    exact ⟨_, _, _, fin, Disj.hun_left d11 (Disj.hun_left d6 (Disj.hun_left dR ((oneD cF).symm))), toX q hW d10 d8 wR' e3 n2 fin⟩
/-- A channel alone as a private block over rows that are lent. -/
theorem solo_priv {R : AH} {c : Nat} {g : Obj} (f : Fin R) (hc : R c = none) : Valid (zf R) [some (c, g)] ∧ wl (zf R) [some (c, g)] = hun hnil (hun (oneC c g) (zf R)) := by
  have zc : zf R c = none := zf_none.2 hc
  have n1 : wl (zf R) [] c = none := by rw [wl_nil]; exact zc
  have V1 := valid_new (L := []) (valid_nil (fin_zf f)) n1 g
  have e1 := wl_new n1 g
  refine ⟨V1, ?_⟩
  rw [List.nil_append] at e1
  rw [← e1, wl_nil]
  funext y
  by_cases hy : y = c
  · subst hy; simp [hupd, hun, hnil, oneC_same]
  · simp [hupd, hun, hnil, oneC_ne hy, hy]
/-- What is asked at the end of a worker's walk that falls off its body's end. -/
def wrkN (c : Nat) (ats : Array TypeId) (ty : TypeId) (h0 : AH) : Post
  | .normal, _, D, L, h => D = [laterB .close ats ty (.chan (some c))] ∧ (Valid h L → ∃ h', wl h L = wl h' [some (c, gch [])] ∧ Valid h' [some (c, gch [])] ∧ Ext h0 h')
  | _, _, _, _, _ => False
theorem worker_bodyN {P : Program} {f : FuncId} {fn : Func} {body : Code} {args cap : Array Value} {n c : Nat} {ats : Array TypeId} {ty : TypeId} {hw R : AH} {vs : List Value} (hf : P.funcs[f]? = some fn) (hname : (fn.name == "runtime.NumGoroutine") = false) (hb : fn.body = some body) (hn : fn.ntmps = n) (ha : Nat.ble (args ++ cap).size n = true)
    (fin : Fin (hun hw (zf R))) (d : Disj hw R) (hwc : hw c = none) (hRc : R c = none)
    (x : @xp ⟨false, some c, none⟩ P n none body (wrkN c ats ty (hun hw (zf R))) (argS (args ++ cap)) [] [some (c, gch vs)] (hun hw (zf R))) :
    RW P c (QW R c [baseG P []] (WEnd f n c ats ty hw)) (baseG P [{ target := .fn (.func f) cap, args := args }]) [] (hun hw (zw R c vs)) := by
  letI : Lvl := ⟨false, some c, none⟩
  have he : Frame.enter P f (args ++ cap) .deferred = mk { (default : Frame) with fn := f, kind := .deferred, roundOf := none } n (argS (args ++ cap)) [] [.code body] := by
    have e := enter_tmps n (args ++ cap) (Nat.le_of_ble_eq_true ha)
    generalize args ++ cap = ars at e
    simp [Frame.enter, mk, hf, hb, hn, e]
  refine .ctl (fr' := Frame.enter P f (args ++ cap) .deferred) (cs' := [baseG P []]) (fun main w => step_base hf hname hb []) ?_
  rw [he]
  have hcn : hun hw (zf R) c = none := by simp [hun, hwc, zf_none.2 hRc]
  have hH : ∀ (h : AH) (us : List Value), h c = none → wl h [some (c, gch us)] = hupd h c (gch us) := fun h us hn0 => by
    have := wl_new (h := h) (L := []) (b := c) (by rw [wl_nil]; exact hn0) (gch us)
    rw [wl_nil] at this
    exact this.symm
  have hz : ∀ (Y : AH) (us : List Value), Y c = none → hupd (hun Y (zf R)) c (gch us) = hun Y (zw R c us) := fun Y us hY => by
    funext b
    by_cases hbc : b = c
    · subst hbc; simp [hupd, hun, hY, zw, oneC_same]
    · simp [hupd, hun, hbc, zw, oneC_ne hbc]
  have V : Valid (hun hw (zf R)) [some (c, gch vs)] := valid_new (L := []) (valid_nil fin) (by rw [wl_nil]; exact hcn) _
  have F0 : Fits (hun hw (zf R)) [some (c, gch vs)] [] (hun hw (zw R c vs)) := by
    rw [← hz hw vs hwc, ← hH _ vs hcn]
    exact Fits.nil V
  refine (x _ F0 { (default : Frame) with fn := f, kind := .deferred, roundOf := none } rfl [] [baseG P []]).bind ?_
  rintro fr cs' H ⟨rfl, e, S', D', L', h', V', kk, a⟩
  cases e with
  | normal =>
    obtain ⟨rfl, kk⟩ := kk
    obtain ⟨h2, e0, V2, ex⟩ := kk V'.valid
    have a' : fr = mk { (default : Frame) with fn := f, kind := .deferred, roundOf := none } n S' [laterB .close ats ty (.chan (some c))] [] := a
    subst a'
    have e1 := V'.eq
    rw [e0] at e1
    clear e0 kk V'
    generalize h2 = h' at *
    have hc' : h' c = none := wl_fresh V2 (i := 0) rfl
    have ez : Ext (zf R) h' := (ext_right (fun b => (d b).imp id zf_none.2)).trans ex
    have oc : own R h' c = none := by simp [own, hRc, hc']
    refine .ctl (fr' := { mk { (default : Frame) with fn := f, kind := .deferred, roundOf := none } n S' [laterB .close ats ty (.chan (some c))] [] with mode := .returning }) (cs' := [baseG P []]) (fun main w => by simp [stepG, stepG.exec, mk]) (.done ⟨rfl, own R h', ?_, oc, own_disj R h', own_ext d ex, S', [], rfl⟩)
    have e2 : mkH [laterB .close ats ty (.chan (some c))] = hnil := rfl
    rw [e2, hun_nil, hH _ [] hc'] at e1
    rw [e1, ← hz _ [] oc, own_hun ez]
  | _ => exact kk.elim
/-- Two private blocks taken out of a heap. -/
theorem wl_pick2 {h : AH} {L : Pv} {i j c b : Nat} {oc ob : Obj} (V : Valid h L) (hi : L[i]? = some (some (c, oc))) (hj : L[j]? = some (some (b, ob))) (hne : oc ≠ ob) :
    ∃ hw, Fin hw ∧ hw c = none ∧ hw b = none ∧ c ≠ b ∧ (∀ y o, wl h L y = some o → y ≠ c → y ≠ b → hw y = some o) ∧ (∀ y, hw y = none ∨ wl h L y = hw y) ∧ wl h L = hun hnil (hun hw (hun (oneC b ob) (oneC c oc))) := by
  have ec := wl_get V hi
  have eb := wl_get V hj
  have hcb : c ≠ b := by
    intro e; subst e
    rw [ec] at eb; cases eb; exact hne rfl
  refine ⟨fun y => if y = c then none else if y = b then none else wl h L y, ?_, by simp, by simp, hcb, fun y o hy h1 h2 => by simp [h1, h2, hy], fun y => ?_, ?_⟩
  · exact (fin_wl V).imp fun N hN y hy => by
      have := hN y hy
      simp [this]
  · by_cases h1 : y = c
    · exact .inl (by simp [h1])
    · by_cases h2 : y = b
      · exact .inl (by simp [h2])
      · exact .inr (by simp [h1, h2])
  · funext y
    by_cases h1 : y = c
    · subst h1; simp [hun, hnil, oneC_ne hcb, oneC_same, ec]
    · by_cases h2 : y = b
      · subst h2; simp [hun, hnil, oneC_same, eb, h1]
      · simp only [hun, hnil, if_neg h1, if_neg h2, oneC_ne h1, oneC_ne h2]
        cases wl h L y <;> rfl
theorem wl_ne {h : AH} {L : Pv} {i j c b : Nat} {oc ob : Obj} (V : Valid h L) (hi : L[i]? = some (some (c, oc))) (hj : L[j]? = some (some (b, ob))) (hne : oc ≠ ob) : c ≠ b := fun e => by
  subst e
  exact hne (Option.some.inj ((wl_get V hi).symm.trans (wl_get V hj)))
theorem zx_inj {R A B : AH} {c : Nat} (e : hun A (zx R c) = hun B (zx R c)) (ac : A c = none) (bc : B c = none) (dA : Disj A R) (dB : Disj B R) : A = B := by
  have : hun A (zf R) = hun B (zf R) := by
    funext y
    have e6 := congrFun e y
    by_cases hy : y = c
    · subst hy; simp [hun, ac, bc]
    · have hz : zx R c y = zf R y := by simp [zx, hun, oneC_ne hy]
      simp only [hun, hz] at e6 ⊢
      exact e6
  exact hun_inj this dA dB
end Go.HL
/- Bellows without tests, in plain data: what leaks. Conditions: none. -/
namespace Go.Bw
open Go Go.HL Go.Wx Go.Rd
variable [Lvl]
/-- A bellows without tests. -/
structure BelP where
  full : Int
  air : Rg
  corners : List Rg
structure BelB (b : BelP) : Prop where
  f1 : 1 ≤ b.full
  f2 : b.full ≤ 200
  a1 : 0 ≤ b.air.mn
  a2 : b.air.mn ≤ b.air.mx
  a3 : b.air.mx ≤ b.full
  c4 : b.corners.length ≤ 4
  cb : ∀ r ∈ b.corners, 0 ≤ r.mn ∧ r.mn ≤ r.mx ∧ r.mx ≤ 5
def belC (A TA : Option Addr) (cA tA : Nat) (b : BelP) : List Value := [.int .i64 b.full, .int .i64 b.air.mn, .int .i64 b.air.mx, .slice A b.corners.length cA, .slice TA 0 tA]
def belV (A TA : Option Addr) (cA tA : Nat) (b : BelP) : Value := .agg #[.int .i64 b.full, .int .i64 b.air.mn, .int .i64 b.air.mx, .slice A b.corners.length cA, .slice TA 0 tA]
def zero4 : List Int := [0, 0, 0, 0]
/-- All leaks that go on from one, from a corner on. -/
def lksM : List Rg → Nat → List Int → List (List Int)
  | [], _, l => [l]
  | r :: rs, k, l => r.all.flatMap fun n => lksM rs (k + 1) (l.set k n)
/-- What comes behind a number in the first range. -/
def lksR (r : Rg) (rs : List Rg) (k : Nat) (l : List Int) (n : Int) : List (List Int) := (rangeI n (r.mx + 1)).flatMap fun n => lksM rs (k + 1) (l.set k n)
theorem lksR_step {r : Rg} {rs : List Rg} {k : Nat} {l : List Int} {n : Int} (hn : n ≤ r.mx) : lksR r rs k l n = lksM rs (k + 1) (l.set k n) ++ lksR r rs k l (n + 1) := by
  unfold lksR
  have := rangeI_split (lo := n) (hi := r.mx + 1) (n := n) (by omega) (by omega)
  rw [rangeI_nil (Int.le_refl n), List.nil_append] at this
  rw [this, List.flatMap_cons]
theorem lksR_end {r : Rg} {rs : List Rg} {k : Nat} {l : List Int} {n : Int} (hn : r.mx < n) : lksR r rs k l n = [] := by
  unfold lksR
  rw [rangeI_nil (by omega)]
  rfl
def lkV (l : List Int) : Value := .agg (tV l).toArray
theorem lksM_len4 : ∀ (rs : List Rg) (k : Nat) (l : List Int), l.length = 4 → ∀ x ∈ lksM rs k l, x.length = 4
  | [], k, l, hl, x, hx => by cases List.mem_singleton.1 hx; exact hl
  | r :: rs, k, l, hl, x, hx => by
    obtain ⟨n, _, h2⟩ := List.mem_flatMap.1 hx
    exact lksM_len4 rs (k + 1) (l.set k n) (by rw [List.length_set]; exact hl) x h2
theorem lksM_len : ∀ (rs : List Rg) (k : Nat) (l : List Int), (∀ r ∈ rs, 0 ≤ r.mn ∧ r.mn ≤ r.mx ∧ r.mx ≤ 5) → (lksM rs k l).length ≤ 6 ^ rs.length
  | [], k, l, _ => by simp [lksM]
  | r :: rs, k, l, hb => by
    have hr := hb r (List.mem_cons_self ..)
    have key : ∀ L : List Int, (L.flatMap fun n => lksM rs (k + 1) (l.set k n)).length ≤ L.length * 6 ^ rs.length := by
      intro L
      induction L with
      | nil => simp
      | cons a L ih =>
        have := lksM_len rs (k + 1) (l.set k a) fun z hz => hb z (List.mem_cons_of_mem _ hz)
        rw [List.flatMap_cons, List.length_append, List.length_cons, Nat.succ_mul]
        omega
    have h1 := key r.all
    have h2 : r.all.length ≤ 6 := by
      unfold Rg.all rangeI
      rw [List.length_map, List.length_range]
      omega
    have h3 : r.all.length * 6 ^ rs.length ≤ 6 * 6 ^ rs.length := Nat.mul_le_mul_right _ h2
    rw [List.length_cons, Nat.pow_succ]
    show (r.all.flatMap fun n => lksM rs (k + 1) (l.set k n)).length ≤ _
    omega
theorem lksM_ne : ∀ (rs : List Rg) (k : Nat) (l : List Int), (∀ r ∈ rs, 0 ≤ r.mn ∧ r.mn ≤ r.mx ∧ r.mx ≤ 5) → lksM rs k l ≠ []
  | [], k, l, _ => by simp [lksM]
  | r :: rs, k, l, hb => by
    have hr := hb r (List.mem_cons_self ..)
    obtain ⟨x, hx⟩ := List.exists_mem_of_ne_nil _ (lksM_ne rs (k + 1) (l.set k r.mn) fun z hz => hb z (List.mem_cons_of_mem _ hz))
    exact List.ne_nil_of_mem (List.mem_flatMap.2 ⟨r.mn, mem_rangeI.2 ⟨Int.le_refl _, by omega⟩, hx⟩)
/-- All truths of a bellows. -/
def lksB (b : BelP) : List (List Int) := lksM b.corners 0 zero4
theorem lksB_len {b : BelP} (B : BelB b) : (lksB b).length ≤ 1296 := by
  have h1 := lksM_len b.corners 0 zero4 B.cb
  have h2 : 6 ^ b.corners.length ≤ 6 ^ 4 := Nat.pow_le_pow_right (by omega) B.c4
  unfold lksB
  omega
theorem lksM_el : ∀ (rs : List Rg) (k : Nat) (l : List Int), (∀ r ∈ rs, 0 ≤ r.mn ∧ r.mn ≤ r.mx ∧ r.mx ≤ 5) → (∀ x ∈ l, 0 ≤ x ∧ x ≤ 5) → ∀ y ∈ lksM rs k l, ∀ x ∈ y, 0 ≤ x ∧ x ≤ 5
  | [], k, l, _, hl, y, hy, x, hx => by cases List.mem_singleton.1 hy; exact hl x hx
  | r :: rs, k, l, hb, hl, y, hy, x, hx => by
    have hr := hb r (List.mem_cons_self ..)
    obtain ⟨n, h1, h2⟩ := List.mem_flatMap.1 hy
    have h3 := mem_rangeI.1 h1
    refine lksM_el rs (k + 1) (l.set k n) (fun z hz => hb z (List.mem_cons_of_mem _ hz)) (fun z hz => ?_) y h2 x hx
    rcases List.mem_or_eq_of_mem_set hz with h4 | rfl
    · exact hl z h4
    · omega
theorem lksB_el {b : BelP} (B : BelB b) : ∀ y ∈ lksB b, ∀ x ∈ y, 0 ≤ x ∧ x ≤ 5 := lksM_el b.corners 0 zero4 B.cb (by decide)
theorem len4 {t : List Int} (h : t.length = 4) : ∃ a b c d, t = [a, b, c, d] := by
  match t, h with
  | [a, b, c, d], _ => exact ⟨a, b, c, d, rfl⟩
theorem lkArr (a b c d : Int) (i : Int) (h0 : 0 ≤ i) (h4 : i < 4) : [Value.int .i64 a, .int .i64 b, .int .i64 c, .int .i64 d].toArray[0 + i.toNat * 1]? = some (.int .i64 ([a, b, c, d].getD i.toNat 0)) := by
  obtain ⟨k, rfl⟩ : ∃ k : Nat, i = k := ⟨i.toNat, by omega⟩
  match k, h4 with
  | 0, _ => rfl
  | 1, _ => rfl
  | 2, _ => rfl
  | 3, _ => rfl
  | k + 4, h4 => omega
def iota (n : Nat) : List Int := (List.range n).map fun i : Nat => (i : Int)
theorem iota_len (n : Nat) : (iota n).length = n := by unfold iota; simp
theorem iota_succ (n : Nat) : iota (n + 1) = iota n ++ [(n : Int)] := by unfold iota; rw [List.range_succ, List.map_append]; rfl
theorem iota_mem {n : Nat} {c : Int} (h : c ∈ iota n) : 0 ≤ c ∧ c < n := by
  unfold iota at h
  obtain ⟨i, h1, rfl⟩ := List.mem_map.1 h
  have := List.mem_range.1 h1
  omega
theorem iota_flat (n : Nat) : ((iota n).flatMap intC).length = n := by
  rw [flat_len (m := 1) (fun _ _ => rfl), iota_len, Nat.mul_one]
/-- The least and the greatest number of things. -/
def mnK {α : Type} (f : α → Int) (x : Int) (l : List α) : Int := l.foldl (fun a y => min a (f y)) x
def mxK {α : Type} (f : α → Int) (x : Int) (l : List α) : Int := l.foldl (fun a y => max a (f y)) x
theorem mnK_snoc {α : Type} (f : α → Int) (x : Int) (l : List α) (y : α) : mnK f x (l ++ [y]) = min (mnK f x l) (f y) := by unfold mnK; rw [List.foldl_append]; rfl
theorem mxK_snoc {α : Type} (f : α → Int) (x : Int) (l : List α) (y : α) : mxK f x (l ++ [y]) = max (mxK f x l) (f y) := by unfold mxK; rw [List.foldl_append]; rfl
/-- What some corners leak together. -/
def sumAt (l cs : List Int) : Int := (cs.map fun c => l.getD c.toNat 0).sum
theorem sumAt_snoc (l cs : List Int) (c : Int) : sumAt l (cs ++ [c]) = sumAt l cs + l.getD c.toNat 0 := by
  unfold sumAt
  rw [List.map_append, List.sum_append]
  simp
theorem sumAt_le {l cs : List Int} (hb : ∀ x ∈ l, 0 ≤ x ∧ x ≤ 5) : 0 ≤ sumAt l cs ∧ sumAt l cs ≤ 5 * cs.length := by
  induction cs with
  | nil => exact ⟨Int.le_refl _, Int.le_refl _⟩
  | cons c cs ih =>
    have h1 : 0 ≤ l.getD c.toNat 0 ∧ l.getD c.toNat 0 ≤ 5 := by
      rw [List.getD_eq_getElem?_getD]
      cases e : l[c.toNat]? with
      | none => simp
      | some x => exact hb x (List.mem_of_getElem? e)
    unfold sumAt at ih ⊢
    rw [List.map_cons, List.sum_cons, List.length_cons]
    push_cast
    omega
end Go.Bw
/- Walks of package bellow: the checks, sums, corners. Conditions: as each theorem states. -/
namespace Go.Proofs.Ytledjpdpkbifgaa
open Go Go.HL Go.Proofs Go.Wx Go.Rd Go.Bw
section
variable [Lvl]
set_option maxRecDepth 100000
theorem bIn_ok (a lo hi : Int) (h : AH) : FnT Try.prog 51 #[.int .i64 a, .int .i64 lo, .int .i64 hi] h (fun v _ => v = .bool (decide (lo ≤ a) && decide (a ≤ hi))) := by
  refine call_body Try.func51 rfl Try.ntmps51 rfl ?_
  refine xp_seq ?_
  refine xp_region rfl ?_
  refine op_pure (pv_assign (v := .bool _) rfl) ?_
  refine xp_seq ?_
  refine xp_region rfl ?_
  refine op_pure (pv_move (v := .int .i64 _) rfl) ?_
  refine op_pure (pv_move (v := .int .i64 _) rfl) ?_
  refine op_pure (pv_of (v := .bool _) rfl) ?_
  refine op_pure (pv_move (v := .bool _) rfl) ?_
  by_cases hc : lo ≤ a
  · have hb : decide (lo ≤ a) = true := by simpa using hc
    refine guard_yes rfl hb ?_
    refine op_pure (pv_move (v := .int .i64 _) rfl) ?_
    refine guard_yes rfl hb ?_
    refine op_pure (pv_move (v := .int .i64 _) rfl) ?_
    refine guard_yes rfl hb ?_
    refine op_pure (pv_of (v := .bool _) rfl) ?_
    refine op_pure (pv_pickT rfl hb (v := .bool _) rfl) ?_
    refine op_pure (pv_assign (v := .bool _) rfl) ?_
    refine xp_ret ?_
    refine res_list (vs := [_]) Try.results51 ⟨resV_tmp rfl rfl, trivial⟩ fun V => ?_
    exact ⟨ext_wl V, by simp [hc]; rfl⟩
  · have hb : decide (lo ≤ a) = false := by simpa using hc
    refine guard_no rfl hb ?_
    refine guard_no rfl hb ?_
    refine guard_no rfl hb ?_
    refine op_pure (pv_pickF rfl hb (v := .bool _) rfl) ?_
    refine op_pure (pv_assign (v := .bool _) rfl) ?_
    refine xp_ret ?_
    refine res_list (vs := [_]) Try.results51 ⟨resV_tmp rfl rfl, trivial⟩ fun V => ?_
    exact ⟨ext_wl V, by simp [hc]; rfl⟩
theorem bIn_yes {a lo hi : Int} (h1 : lo ≤ a) (h2 : a ≤ hi) (h : AH) : FnT Try.prog 51 #[.int .i64 a, .int .i64 lo, .int .i64 hi] h (fun v _ => v = .bool true) :=
  (bIn_ok a lo hi h).mono (fun _ _ r => ⟨r.1, r.2.trans (by rw [decide_eq_true h1, decide_eq_true h2]; rfl)⟩) fun _ _ y => y
theorem bRange_ok (x : Rg) (hi : Int) (h1 : 0 ≤ x.mn) (h2 : x.mn ≤ x.mx) (h3 : x.mx ≤ hi) (h : AH) : FnT Try.prog 52 #[rgV x, .int .i64 hi] h (fun v _ => v = .int .i64 0) := by
  refine call_body Try.func52 rfl Try.ntmps52 rfl ?_
  refine xp_seq ?_
  refine xp_region rfl ?_
  refine op_box (v := .agg #[.int .i64 _, .int .i64 _]) (cs := [_, _]) rfl rfl fun b2 hb2 => ?_
  refine wp_norm [_] rfl ?_
  refine op_pure (pv_assign (v := .int .i64 _) rfl) ?_
  refine xp_seq ?_
  refine xp_block ?_
  refine xp_seq ?_
  refine xp_seq ?_
  refine xp_region rfl ?_
  refine op_pure (pv_fieldAddr rfl rfl rfl rfl 0 rfl) ?_
  refine op_loadP 0 (v := .int .i64 _) rfl rfl rfl rfl ?_
  refine op_pure (pv_move (v := .int .i64 _) rfl) ?_
  refine op_fn (caps := []) (vs := [.int .i64 _, .int .i64 _, .int .i64 _]) rfl rfl rfl (bIn_yes h1 (by omega) h) ?_
  rintro _ e1 E1 rfl
  refine op_pure (pv_of (v := .bool _) rfl) ?_
  refine op_pure (pv_assign (v := .bool _) rfl) ?_
  refine xp_condF rfl (rfl) ?_
  refine xp_region rfl ?_
  refine op_pure (pv_fieldAddr rfl rfl rfl rfl 1 rfl) ?_
  refine op_loadP 0 (v := .int .i64 _) rfl rfl rfl rfl ?_
  refine op_pure (pv_move (v := .int .i64 _) rfl) ?_
  refine op_fn (caps := []) (vs := [.int .i64 _, .int .i64 _, .int .i64 _]) rfl rfl rfl (bIn_yes (show 0 ≤ x.mx by omega) h3 e1) ?_
  rintro _ e2 E2 rfl
  refine op_pure (pv_of (v := .bool _) rfl) ?_
  refine op_pure (pv_assign (v := .bool _) rfl) ?_
  refine xp_condF rfl (rfl) ?_
  refine xp_seq ?_
  refine xp_region rfl ?_
  refine op_pure (pv_fieldAddr rfl rfl rfl rfl 0 rfl) ?_
  refine op_loadP 0 (v := .int .i64 _) rfl rfl rfl rfl ?_
  refine op_pure (pv_fieldAddr rfl rfl rfl rfl 1 rfl) ?_
  refine op_loadP 0 (v := .int .i64 _) rfl rfl rfl rfl ?_
  refine op_pure (pv_of (v := .bool _) rfl) ?_
  refine op_pure (pv_assign (v := .bool _) rfl) ?_
  refine xp_condF rfl (decide_eq_false (by omega)) ?_
  refine xp_skip ?_
  refine xp_seq ?_
  refine xp_region rfl ?_
  refine op_pure (pv_assign (v := .int .i64 _) rfl) ?_
  refine xp_ret ?_
  refine res_list (vs := [_]) Try.results52 ⟨resV_tmp rfl rfl, trivial⟩ fun V => ?_
  exact ⟨(Ext.trans (Ext.trans E1 E2) (ext_wl V)), rfl⟩
theorem bCheck_ok (b : BelP) (B : BelB b) (A TA : Option Addr) (cA tA : Nat) (h : AH) (R : Row h 2 rgC A b.corners) : FnT Try.prog 38 #[belV A TA cA tA b] h (fun v _ => v = .int .i64 0) := by
  have B4 := B.c4
  refine call_body Try.func38 rfl Try.ntmps38 rfl ?_
  refine xp_seq ?_
  refine xp_region rfl ?_
  refine op_box (v := .agg #[.int .i64 _, .int .i64 _, .int .i64 _, .slice _ _ _, .slice _ _ _]) (cs := [_, _, _, _, _]) rfl rfl fun b1 hb1 => ?_
  refine wp_norm [_] rfl ?_
  refine op_pure (pv_assign (v := .int .i64 _) rfl) ?_
  refine xp_seq ?_
  refine xp_seq ?_
  refine xp_region rfl ?_
  refine op_pure (pv_fieldAddr rfl rfl rfl rfl 0 rfl) ?_
  refine op_loadP 0 (v := .int .i64 _) rfl rfl rfl rfl ?_
  refine op_fn (caps := []) (vs := [.int .i64 _, .int .i64 _, .int .i64 _]) rfl rfl rfl (bIn_yes B.f1 B.f2 h) ?_
  rintro _ e1 E1 rfl
  refine op_pure (pv_of (v := .bool _) rfl) ?_
  refine xp_condF rfl (rfl) ?_
  refine xp_skip ?_
  refine xp_seq ?_
  refine xp_seq ?_
  refine xp_region rfl ?_
  refine op_pure (pv_fieldAddr rfl rfl rfl rfl 1 rfl) ?_
  refine op_loadPA 0 (vs := [.int .i64 _, .int .i64 _]) rfl rfl rfl rfl rfl ?_
  refine op_pure (pv_fieldAddr rfl rfl rfl rfl 0 rfl) ?_
  refine op_loadP 0 (v := .int .i64 _) rfl rfl rfl rfl ?_
  refine op_fn (caps := []) (vs := [.agg #[.int .i64 _, .int .i64 _], .int .i64 _]) rfl rfl rfl (bRange_ok b.air b.full B.a1 B.a2 B.a3 e1) ?_
  rintro _ e2 E2 rfl
  refine op_pure (pv_assign (v := .int .i64 _) rfl) ?_
  refine xp_seq ?_
  refine xp_region rfl ?_
  refine op_pure (pv_move (v := .int .i64 _) rfl) ?_
  refine op_pure (pv_of (v := .bool _) rfl) ?_
  refine xp_condF rfl (rfl) ?_
  refine xp_skip ?_
  refine xp_seq ?_
  refine xp_seq ?_
  refine xp_region rfl ?_
  refine op_pure (pv_fieldAddr rfl rfl rfl rfl 3 rfl) ?_
  refine op_loadP 0 (v := .slice _ _ _) rfl rfl rfl rfl ?_
  refine op_pure (pv_len rfl rfl) ?_
  refine op_pure (pv_of (v := .bool _) rfl) ?_
  refine xp_condF rfl (decide_eq_false (by omega)) ?_
  refine xp_skip ?_
  refine xp_seq ?_
  refine xp_seq ?_
  refine xp_region rfl ?_
  refine op_pure (pv_fieldAddr rfl rfl rfl rfl 3 rfl) ?_
  refine op_loadP 0 (v := .slice _ _ _) rfl rfl rfl rfl ?_
  refine op_pure (pv_len rfl rfl) ?_
  refine op_pure (pv_move (v := .int .i64 _) rfl) ?_
  refine xp_block ?_
  refine xp_loopB [2, 5, 6, 29, 30, 31, 32, 33, 34, 35, 36, 37, 38] 1 (α := Nat) (fun k => [(29, .int .i64 k)]) (fun k => _) (fun k h_k => k ≤ b.corners.length) (fun k => b.corners.length - k) (0) ⟨rfl, trivial⟩ (rfl) (Nat.zero_le _) ?_
  rintro k T1 h_k E_k J_k
  refine goes_norm [_] rfl ?_
  refine xp_seq ?_
  refine xp_region rfl ?_
  refine op_pure (pv_of (v := .bool _) rfl) ?_
  refine xp_seq ?_
  refine xp_cond rfl (fun hk => ?_) (fun hk => ?_)
  · skip
    have hkl : k < b.corners.length := ltI hk
    obtain ⟨g, off, hA, hc⟩ := (R.ext (Ext.trans (Ext.trans E1 E2) E_k)).at (by omega) hkl
    obtain ⟨q1, q2, q3⟩ := B.cb _ (List.getElem_mem hkl)
    refine xp_skip ?_
    refine xp_seq ?_
    refine xp_block ?_
    refine xp_seq ?_
    refine xp_region rfl ?_
    refine op_pure (pv_indexE rfl hA rfl rfl rfl (by omega) (by omega)) ?_
    refine op_loadA rfl rfl rfl rfl (hc) ?_
    refine op_alloc (cs := [_, _]) rfl rfl fun b5 hb5 => ?_
    refine wp_norm [_, _] rfl ?_
    refine op_storeP 1 (v := .agg #[.int .i64 _, .int .i64 _]) (vs := [_, _]) (c' := [_, _]) rfl rfl rfl rfl rfl rfl rfl rfl rfl ?_
    refine wp_norm [_, _] rfl ?_
    refine xp_seq ?_
    refine xp_region rfl ?_
    refine op_loadPA 1 (vs := [.int .i64 _, .int .i64 _]) rfl rfl rfl rfl rfl ?_
    refine op_fn (caps := []) (vs := [.agg #[.int .i64 _, .int .i64 _], .int .i64 _]) rfl rfl rfl (bRange_ok b.corners[k] 5 q1 q2 q3 h_k) ?_
    rintro _ e3 E3 rfl
    refine op_pure (pv_assign (v := .int .i64 _) rfl) ?_
    refine xp_seq ?_
    refine xp_region rfl ?_
    refine op_pure (pv_move (v := .int .i64 _) rfl) ?_
    refine op_pure (pv_of (v := .bool _) rfl) ?_
    refine xp_condF rfl (rfl) ?_
    refine xp_skip ?_
    refine xp_region rfl ?_
    refine op_pure (pv_arith rfl (by omega)) ?_
    refine op_pure (pv_move (v := .int .i64 _) rfl) ?_
    refine ⟨k + 1, ⟨rfl, trivial⟩, rfl, rfl, (Ext.trans E_k E3), fun h3 E3 => hkl, by first | omega | (dsimp only; omega), ?_⟩
    repeat (first | exact off_base _ _ _ | refine off_upd (by decide) ?_ | refine off_updL rfl ?_ | refine off_mix rfl ?_)
  · skip
    refine xp_exit ?_
    refine xp_seq ?_
    refine xp_seq ?_
    refine xp_region rfl ?_
    refine op_pure (pv_fieldAddr rfl rfl rfl rfl 4 rfl) ?_
    refine op_loadP 0 (v := .slice _ _ _) rfl rfl rfl rfl ?_
    refine op_pure (pv_len rfl rfl) ?_
    refine op_pure (pv_of (v := .bool _) rfl) ?_
    refine xp_condF rfl (rfl) ?_
    refine xp_skip ?_
    refine xp_seq ?_
    refine xp_seq ?_
    refine xp_region rfl ?_
    refine op_pure (pv_fieldAddr rfl rfl rfl rfl 4 rfl) ?_
    refine op_loadP 0 (v := .slice _ _ _) rfl rfl rfl rfl ?_
    refine op_pure (pv_len rfl rfl) ?_
    refine op_pure (pv_move (v := .int .i64 _) rfl) ?_
    refine xp_block ?_
    refine xp_unroll ?_
    refine xp_seq ?_
    refine xp_region rfl ?_
    refine op_pure (pv_of (v := .bool _) rfl) ?_
    refine xp_seq ?_
    refine xp_condF rfl (rfl) ?_
    refine xp_exit ?_
    refine xp_seq ?_
    refine xp_region rfl ?_
    refine op_pure (pv_assign (v := .int .i64 _) rfl) ?_
    refine xp_ret ?_
    refine res_list (vs := [_]) Try.results38 ⟨resV_tmp rfl rfl, trivial⟩ fun V => ?_
    exact ⟨(Ext.trans (Ext.trans (Ext.trans E1 E2) E_k) (ext_wl V)), rfl⟩
/-- A sum of leaks, over corners in a list. -/
theorem total_ok (l : List Int) (hl4 : l.length = 4) (hb : ∀ x ∈ l, 0 ≤ x ∧ x ≤ 5) (cs : List Int) (hcs : ∀ c ∈ cs, 0 ≤ c ∧ c < 4) (hcl : cs.length ≤ 4) (A : Option Addr) (cA : Nat) (h : AH) (R : Row h 1 intC A cs) :
    FnT Try.prog 26 #[lkV l, .slice A cs.length cA] h (fun v _ => v = .int .i64 (sumAt l cs)) := by
  obtain ⟨a, b, c, d, rfl⟩ := len4 hl4
  refine call_body Try.func26 rfl Try.ntmps26 rfl ?_
  refine xp_seq ?_
  refine xp_region rfl ?_
  refine op_box (v := .agg #[.int .i64 _, .int .i64 _, .int .i64 _, .int .i64 _]) (cs := [_, _, _, _]) rfl rfl fun b2 hb2 => ?_
  refine wp_norm [_] rfl ?_
  refine op_pure (pv_assign (v := .int .i64 _) rfl) ?_
  refine xp_seq ?_
  refine xp_region rfl ?_
  refine op_pure (pv_assign (v := .int .i64 _) rfl) ?_
  refine xp_seq ?_
  refine xp_seq ?_
  refine xp_region rfl ?_
  refine op_pure (pv_move (v := .slice _ _ _) rfl) ?_
  refine op_pure (pv_len rfl rfl) ?_
  refine op_pure (pv_move (v := .int .i64 _) rfl) ?_
  refine xp_block ?_
  refine xp_loopB [5, 7, 10, 11, 12, 13, 14, 15, 16, 17, 18, 19] 1 (α := Nat) (fun k => [(10, .int .i64 k), (5, .int .i64 (sumAt [a, b, c, d] (cs.take k)))]) (fun k => _) (fun k h_k => k ≤ cs.length) (fun k => cs.length - k) (0) ⟨rfl, rfl, trivial⟩ (rfl) (Nat.zero_le _) ?_
  rintro k T1 h_k E_k J_k
  refine goes_norm [_] rfl ?_
  have hs := sumAt_le (cs := cs.take k) hb
  have hs2 : (cs.take k).length ≤ 4 := by rw [List.length_take]; omega
  refine xp_seq ?_
  refine xp_region rfl ?_
  refine op_pure (pv_of (v := .bool _) rfl) ?_
  refine xp_seq ?_
  refine xp_cond rfl (fun hk => ?_) (fun hk => ?_)
  · skip
    have hkl : k < cs.length := ltI hk
    obtain ⟨g, off, hA, hc⟩ := (R.ext E_k).at (by omega) hkl
    obtain ⟨c0, c4⟩ := hcs _ (List.getElem_mem hkl)
    have hx := sumAt_le (cs := [cs[k]]) hb
    have hx2 : sumAt [a, b, c, d] [cs[k]] = [a, b, c, d].getD (cs[k]).toNat 0 := by unfold sumAt; simp
    rw [hx2, List.length_cons, List.length_nil] at hx
    refine xp_skip ?_
    refine xp_seq ?_
    refine xp_block ?_
    refine xp_seq ?_
    refine xp_region rfl ?_
    refine op_pure (pv_indexE rfl hA rfl rfl rfl (by omega) (by omega)) ?_
    refine op_load (v := .int .i64 _) rfl rfl ((hc) 0 _ rfl) ?_
    refine op_pure (pv_assign (v := .int .i64 _) rfl) ?_
    refine xp_region rfl ?_
    refine op_pure (pv_move (v := .int .i64 _) rfl) ?_
    refine op_pure (pv_move (v := .int .i64 _) rfl) ?_
    refine op_pure (pv_indexA (m := 1) rfl rfl rfl rfl (by omega) (by omega)) ?_
    refine op_loadP 0 (v := .int .i64 ([a, b, c, d].getD (cs[k]).toNat 0)) rfl rfl rfl (lkArr a b c d _ c0 c4) ?_
    refine op_pure (pv_arith rfl (by omega)) ?_
    refine op_pure (pv_assign (v := .int .i64 _) rfl) ?_
    refine xp_region rfl ?_
    refine op_pure (pv_arith rfl (by omega)) ?_
    refine op_pure (pv_move (v := .int .i64 _) rfl) ?_
    refine ⟨k + 1, ⟨rfl, intE (by rw [take_snoc hkl, sumAt_snoc]), trivial⟩, rfl, rfl, E_k, fun h3 E3 => hkl, by first | omega | (dsimp only; omega), ?_⟩
    repeat (first | exact off_base _ _ _ | refine off_upd (by decide) ?_ | refine off_updL rfl ?_ | refine off_mix rfl ?_)
  · skip
    have hke : k = cs.length := by have := geI hk; omega
    subst hke
    refine xp_exit ?_
    refine xp_seq ?_
    refine xp_region rfl ?_
    refine op_pure (pv_move (v := .int .i64 _) rfl) ?_
    refine op_pure (pv_assign (v := .int .i64 _) rfl) ?_
    refine xp_ret ?_
    refine res_list (vs := [_]) Try.results26 ⟨resV_tmp rfl rfl, trivial⟩ fun V => ?_
    exact ⟨(Ext.trans E_k (ext_wl V)), intE (by rw [List.take_length])⟩
/-- All corners. -/
theorem corners_ok (b : BelP) (B : BelB b) (A TA : Option Addr) (cA tA : Nat) (h : AH) : FnT Try.prog 23 #[belV A TA cA tA b, .slice none 0 0] h (fun v h' => ∃ A2 c2, v = .slice A2 b.corners.length c2 ∧ Row h' 1 intC A2 (iota b.corners.length)) := by
  have B4 := B.c4
  refine call_body Try.func23 rfl Try.ntmps23 rfl ?_
  refine xp_seq ?_
  refine xp_region rfl ?_
  refine op_box (v := .agg #[.int .i64 _, .int .i64 _, .int .i64 _, .slice _ _ _, .slice _ _ _]) (cs := [_, _, _, _, _]) rfl rfl fun b2 hb2 => ?_
  refine wp_norm [_] rfl ?_
  refine op_pure (pv_assign (v := .slice _ _ _) rfl) ?_
  refine goes_more ?_
  refine goes_norm [_, _] rfl ?_
  refine xp_seq ?_
  refine xp_region rfl ?_
  refine op_pure (pv_assign (v := .slice _ _ _) rfl) ?_
  refine xp_seq ?_
  refine xp_seq ?_
  refine xp_region rfl ?_
  refine op_pure (pv_fieldAddr rfl rfl rfl rfl 3 rfl) ?_
  refine op_loadP 0 (v := .slice _ _ _) rfl rfl rfl rfl ?_
  refine op_pure (pv_len rfl rfl) ?_
  refine op_pure (pv_move (v := .int .i64 _) rfl) ?_
  refine xp_block ?_
  refine xp_loopL [5, 6, 10, 11, 12, 13, 14, 15, 16, 17, 18, 19, 20, 21] 2 (α := Nat × Acc) (fun ⟨k, a⟩ => [(10, .int .i64 k), (5, .slice a.A a.n a.c)]) (fun ⟨k, a⟩ L => L.set 1 (a.p)) (fun ⟨k, a⟩ h_k => k ≤ b.corners.length ∧ AccR 3 1 ((iota k).flatMap intC) a) (fun ⟨k, a⟩ => b.corners.length - k) ((0, acc0)) ⟨rfl, rfl, trivial⟩ (rfl) (⟨Nat.zero_le _, accR0⟩) ?_
  rintro ⟨k, a⟩ T1 h_k E_k J_k
  refine goes_norm [_, _] rfl ?_
  obtain ⟨K1, K2⟩ := J_k
  refine xp_seq ?_
  refine xp_region rfl ?_
  refine op_pure (pv_of (v := .bool _) rfl) ?_
  refine xp_seq ?_
  refine xp_cond rfl (fun hk => ?_) (fun hk => ?_)
  · skip
    have hkl : k < b.corners.length := ltI hk
    refine xp_skip ?_
    refine xp_seq ?_
    refine xp_block ?_
    refine xp_seq ?_
    refine xp_region rfl ?_
    refine op_pure (pv_move (v := .int .i64 _) rfl) ?_
    refine op_pure (pv_assign (v := .int .i64 _) rfl) ?_
    refine xp_seq ?_
    refine xp_region rfl ?_
    refine op_pure (pv_move (v := .slice _ _ _) rfl) ?_
    refine op_pure (pv_move (v := .int .i64 _) rfl) ?_
    refine op_fn (caps := []) (vs := [.slice _ _ _, .int .i64 _]) rfl rfl rfl (contains_ok [] k none 0 h_k ⟨fun _ _ => rfl, Rd.nil _ _⟩ (by decide)) ?_
    rintro _ e1 E1 rfl
    refine op_pure (pv_of (v := .bool _) rfl) ?_
    refine xp_condT rfl (rfl) ?_
    refine xp_region rfl ?_
    refine op_pure (pv_move (v := .slice _ _ _) rfl) ?_
    refine op_pure (pv_move (v := .int .i64 _) rfl) ?_
    refine op_buildSlice (zc := [_]) (vs := [(0, .int .i64 _)]) (cs := [_]) rfl rfl rfl rfl rfl rfl rfl fun b19 hb19 => ?_
    refine wp_norm [_, _, _] rfl ?_
    refine op_appendR 1 K2 rfl rfl rfl (fun V => rdP V (i := 2) rfl) rfl rfl rfl rfl rfl rfl rfl rfl rfl (by omega) rfl (by rw [iota_flat]; simp; omega) fun a2 h2a E2a ha2 => ?_
    refine wp_norm [_, _, _] rfl ?_
    refine op_pure (pv_assign (v := .slice _ _ _) rfl) ?_
    refine xp_region rfl ?_
    refine op_pure (pv_arith rfl (by omega)) ?_
    refine op_pure (pv_move (v := .int .i64 _) rfl) ?_
    refine ⟨(k + 1, a2), ⟨rfl, rfl, trivial⟩, rfl, rfl, (Ext.trans (Ext.trans E_k E1) E2a), fun h3 E3 => ⟨hkl, by rw [iota_succ, List.flatMap_append]; exact ha2⟩, by first | omega | (dsimp only; omega), ?_⟩
    repeat (first | exact off_base _ _ _ | refine off_upd (by decide) ?_ | refine off_updL rfl ?_ | refine off_mix rfl ?_)
  · skip
    have hke : k = b.corners.length := by have := geI hk; omega
    subst hke
    have hn := K2.len
    rw [iota_flat, Nat.mul_one] at hn
    refine xp_exit ?_
    refine xp_seq ?_
    refine xp_region rfl ?_
    refine op_pure (pv_move (v := .slice _ _ _) rfl) ?_
    refine op_pure (pv_assign (v := .slice _ _ _) rfl) ?_
    refine xp_ret ?_
    refine res_list (vs := [_]) Try.results23 ⟨resV_tmp rfl rfl, trivial⟩ fun V => ?_
    obtain ⟨ap, aA, an, ac⟩ := a
    dsimp only at hn
    subst hn
    exact ⟨(Ext.trans E_k (ext_wl V)), _, _, rfl, fun _ _ => rfl, K2.rd fun b' o hb => wl_get V (i := 1) (by rw [← hb]; rfl)⟩
end
end Go.Proofs.Ytledjpdpkbifgaa
/- Walks of package bellow: the goroutine of truths. Conditions: as each theorem states. -/
namespace Go.Proofs.Ytledjpdpkbifgaa
open Go Go.HL Go.Proofs Go.Wx Go.Rd Go.Bw Go.Conc
set_option maxRecDepth 100000
section
variable [Lvl]
theorem wrL_setK {t : List Int} {i o : Nat} {x : Int} (ho : o = i) : wrL (tV t) o [.int .i64 x] = tV (t.set i x) := by
  subst ho
  simp [wrL, List.map_set]
/-- The blocks that the closure next reads. -/
structure NextK (h : AH) (b : BelP) (A TA : Option Addr) (cA tA : Nat) (c bB bN bC : Nat) : Prop where
  r : Row h 2 rgC A b.corners
  c1 : h bB = some (.cells (belC A TA cA tA b).toArray 39 (0, 0))
  c2 : ∃ t, h bN = some (.cells #[.func (.func 54) #[] #[.pointer (some ⟨bB, 0, none⟩), .pointer (some ⟨bN, 0, none⟩), .pointer (some ⟨bC, 0, none⟩)]] t (0, 0))
  c3 : ∃ t f, h bC = some (.cells #[.chan (some c)] t f)
theorem NextK.ext {h h' : AH} {b : BelP} {A TA : Option Addr} {cA tA : Nat} {c bB bN bC : Nat} (B : NextK h b A TA cA tA c bB bN bC) (E : Ext h h') : NextK h' b A TA cA tA c bB bN bC :=
  ⟨B.r.ext E, E _ _ B.c1, B.c2.imp fun _ e => E _ _ e, B.c3.imp fun _ e => e.imp fun _ e => E _ _ e⟩
theorem nextK_ok (b : BelP) (BB : BelB b) (A TA : Option Addr) (cA tA : Nat) (c bB bN bC : Nat) (hco : Lvl.co = some c) :
    ∀ (r : List Rg) (k : Nat), b.corners.drop k = r → k ≤ b.corners.length → ∀ (l : List Int) (us : List Value) (h : AH), l.length = 4 → NextK h b A TA cA tA c bB bN bC →
      FnM Try.prog (.func (.func 54) #[] [.pointer (some ⟨bB, 0, none⟩), .pointer (some ⟨bN, 0, none⟩), .pointer (some ⟨bC, 0, none⟩)].toArray) [lkV l, .int .i64 k] h [some (c, gch ((lksM r k l).map lkV ++ us))] (fun _ h' M' => M' = [some (c, gch us)]) := by
  have B4 := BB.c4
  intro r
  induction r with
  | nil =>
    intro k hd hk l us h hl N
    have hkl : k = b.corners.length := by
      have := congrArg List.length hd
      simp at this
      omega
    have hT4 : (tV l).length = 4 := by rw [List.length_map, hl]
    obtain ⟨t3, f3, c3⟩ := N.c3
    refine fnM_body rfl rfl Try.func54 rfl Try.ntmps54 rfl ?_
    refine xp_seq ?_
    refine xp_region rfl ?_
    refine op_box (v := lkV l) (cs := tV l) rfl rfl fun b5 hb5 => ?_
    refine wp_norm [_, _] rfl ?_
    refine xp_seq ?_
    refine xp_seq ?_
    refine xp_region rfl ?_
    refine op_pure (pv_move (v := .int .i64 _) rfl) ?_
    refine op_pure (pv_fieldAddr rfl rfl rfl rfl _ rfl) ?_
    refine op_load (v := .slice _ _ _) rfl rfl (by simp only [cellA, N.c1]; rfl) ?_
    refine op_pure (pv_len rfl rfl) ?_
    refine op_pure (pv_of (v := .bool _) rfl) ?_
    refine xp_condF rfl (decide_eq_false (by omega)) ?_
    refine xp_skip ?_
    refine xp_seq ?_
    refine xp_seq ?_
    refine xp_region rfl ?_
    refine op_pure (pv_fieldAddr rfl rfl rfl rfl _ rfl) ?_
    refine op_load (v := .slice _ _ _) rfl rfl (by simp only [cellA, N.c1]; rfl) ?_
    refine op_pure (pv_len rfl rfl) ?_
    refine op_pure (pv_move (v := .int .i64 _) rfl) ?_
    refine xp_block ?_
    refine xp_unroll ?_
    refine xp_seq ?_
    refine xp_region rfl ?_
    refine op_pure (pv_of (v := .bool _) rfl) ?_
    refine xp_seq ?_
    refine xp_condF rfl (rfl) ?_
    refine xp_exit ?_
    refine xp_regionD rfl rfl ?_
    refine op_load (v := .chan (some c)) rfl rfl (by simp only [cellA, c3]; rfl) ?_
    refine op_loadPA 1 (m := 4) (vs := tV l) rfl rfl rfl rfl (rd_all hT4) ?_
    refine goes_send (j := 0) (v := lkV l) (vs := us) hco rfl rfl rfl rfl rfl rfl ?_
    refine goes_end ?_
    refine res_list (vs := []) Try.results54 trivial fun V => ?_
    obtain ⟨h9, E9, e9, V9⟩ := wl_drop [_] [some (c, gch us)] V
    exact ⟨h9, _, e9, V9, Ext.trans (Ext.refl _) E9, rfl⟩
  | cons r rs ih =>
    intro k hd hk l us h hl N
    have hkl : k < b.corners.length := by
      have := congrArg List.length hd
      simp at this
      omega
    have hlk : b.corners[k] = r := by
      have := List.drop_eq_getElem_cons hkl
      rw [hd] at this
      exact (List.cons.inj this).1.symm
    have hds : b.corners.drop (k + 1) = rs := by
      have := List.drop_eq_getElem_cons hkl
      rw [hd] at this
      exact (List.cons.inj this).2.symm
    obtain ⟨q1, q2, q3⟩ := BB.cb r (hlk ▸ List.getElem_mem hkl)
    have hT4 : (tV l).length = 4 := by rw [List.length_map, hl]
    obtain ⟨t2, c2⟩ := N.c2
    obtain ⟨g, off, rfl, hc⟩ := N.r.at (by omega) hkl
    rw [hlk] at hc
    refine fnM_body rfl rfl Try.func54 rfl Try.ntmps54 rfl ?_
    refine xp_seq ?_
    refine xp_region rfl ?_
    refine op_box (v := lkV l) (cs := tV l) rfl rfl fun b5 hb5 => ?_
    refine wp_norm [_, _] rfl ?_
    refine xp_seq ?_
    refine xp_seq ?_
    refine xp_region rfl ?_
    refine op_pure (pv_move (v := .int .i64 _) rfl) ?_
    refine op_pure (pv_fieldAddr rfl rfl rfl rfl _ rfl) ?_
    refine op_load (v := .slice _ _ _) rfl rfl (by simp only [cellA, N.c1]; rfl) ?_
    refine op_pure (pv_len rfl rfl) ?_
    refine op_pure (pv_of (v := .bool _) rfl) ?_
    refine xp_condT rfl (decide_eq_true (by omega)) ?_
    refine xp_seq ?_
    refine xp_seq ?_
    refine xp_region rfl ?_
    refine op_pure (pv_fieldAddr rfl rfl rfl rfl _ rfl) ?_
    refine op_load (v := .slice _ _ _) rfl rfl (by simp only [cellA, N.c1]; rfl) ?_
    refine op_pure (pv_move (v := .int .i64 _) rfl) ?_
    refine op_pure (pv_index rfl rfl rfl rfl (by omega) (by omega)) ?_
    refine op_pure (pv_fieldAddr rfl rfl rfl rfl _ rfl) ?_
    refine op_load (v := .int .i64 _) rfl rfl (hc 0 (.int .i64 r.mn) rfl) ?_
    refine op_pure (pv_assign (v := .int .i64 _) rfl) ?_
    refine xp_block ?_
    refine xp_loopL [7, 21, 22, 23, 24, 25, 26, 27, 28, 29, 30, 31, 32, 33, 34, 35, 36, 37, 38] 2 (α := Int × List Int) (fun ⟨n, x⟩ => [(7, .int .i64 n)]) (fun ⟨n, x⟩ L => (L.set 0 (some (c, gch ((lksR r rs k l n).map lkV ++ us)))).set 1 (some (b5, .cells (tV x).toArray 83 (0, 0)))) (fun ⟨n, x⟩ h_n => (r.mn ≤ n ∧ n ≤ r.mx + 1) ∧ x.length = 4 ∧ (x = l ∨ ∃ m, x = l.set k m)) (fun ⟨n, x⟩ => (r.mx + 1 - n).toNat) ((r.mn, l)) ⟨rfl, trivial⟩ (rfl) (⟨⟨by omega, by omega⟩, hl, .inl rfl⟩) ?_
    rintro ⟨n, x⟩ T1 h_n E_n J_n
    refine goes_norm [_, _] rfl ?_
    obtain ⟨⟨J1, J2⟩, J3, J4⟩ := J_n
    have B' := N.ext E_n
    have hx4 : (tV x).length = 4 := by rw [List.length_map, J3]
    refine xp_seq ?_
    refine xp_seq ?_
    refine xp_region rfl ?_
    refine op_pure (pv_move (v := .int .i64 _) rfl) ?_
    refine op_pure (pv_fieldAddr rfl rfl rfl rfl _ rfl) ?_
    refine op_load (v := .slice _ _ _) rfl rfl (by simp only [cellA, B'.c1]; rfl) ?_
    refine op_pure (pv_move (v := .int .i64 _) rfl) ?_
    refine op_pure (pv_index rfl rfl rfl rfl (by omega) (by omega)) ?_
    refine op_pure (pv_fieldAddr rfl rfl rfl rfl _ rfl) ?_
    refine op_load (v := .int .i64 _) rfl rfl ((hc.ext E_n) 1 (.int .i64 r.mx) rfl) ?_
    refine op_pure (pv_of (v := .bool _) rfl) ?_
    refine xp_cond rfl (fun hn => ?_) (fun hn => ?_)
    · skip
      have hle : n ≤ r.mx := of_decide_eq_true hn
      have hxs : x.set k n = l.set k n := by
        rcases J4 with rfl | ⟨m, rfl⟩
        · rfl
        · rw [List.set_set]
      refine xp_skip ?_
      refine xp_seq ?_
      refine xp_block ?_
      refine xp_seq ?_
      refine xp_region rfl ?_
      refine op_pure (pv_move (v := .int .i64 _) rfl) ?_
      refine op_pure (pv_move (v := .int .i64 _) rfl) ?_
      refine op_pure (pv_indexA rfl rfl rfl rfl (by omega) (by omega)) ?_
      refine op_storeP 1 (v := .int .i64 _) (vs := [_]) (c' := tV (l.set k n)) rfl rfl rfl rfl rfl rfl (Nat.ble_eq_true_of_le (show 0 + (k : Int).toNat * 1 + 1 ≤ (tV x).length by omega)) rfl (by rw [← hxs]; exact wrL_setK (show 0 + (k : Int).toNat * 1 = k by omega)) ?_
      refine wp_norm [_, _] rfl ?_
      refine xp_region rfl ?_
      refine op_load (v := .func _ _ _) rfl rfl (by simp only [cellA, E_n _ _ c2]; rfl) ?_
      have hT5 : (tV (l.set k n)).length = 4 := by rw [List.length_map, List.length_set, hl]
      refine op_loadPA 1 (m := 4) (vs := tV (l.set k n)) rfl rfl rfl rfl (rd_all hT5) ?_
      refine op_pure (pv_move (v := .int .i64 _) rfl) ?_
      refine op_pure (pv_arith rfl (by omega)) ?_
      refine wp_norm [some (c, gch ((lksM rs (k + 1) (l.set k n)).map lkV ++ ((lksR r rs k l (n + 1)).map lkV ++ us))), _] (by rw [lksR_step hle, List.map_append, List.append_assoc]) ?_
      refine op_fnMM [] [_] [_] (vs := _) rfl rfl rfl (ih (k + 1) hds hkl (l.set k n) ((lksR r rs k l (n + 1)).map lkV ++ us) h_n (by rw [List.length_set]; exact hl) B') ?_
      rintro _ h1 M1 E1 rfl
      refine wp_norm [_, _] rfl ?_
      refine xp_region rfl ?_
      refine op_pure (pv_move (v := .int .i64 _) rfl) ?_
      refine op_pure (pv_arith rfl (by omega)) ?_
      refine op_pure (pv_assign (v := .int .i64 _) rfl) ?_
      refine ⟨(n + 1, l.set k n), ⟨rfl, trivial⟩, rfl, rfl, (Ext.trans E_n E1), fun h3 E3 => ⟨⟨by omega, by omega⟩, by rw [List.length_set]; exact hl, .inr ⟨n, rfl⟩⟩, by first | omega | (dsimp only; omega), ?_⟩
      repeat (first | exact off_base _ _ _ | refine off_upd (by decide) ?_ | refine off_updL rfl ?_ | refine off_mix rfl ?_)
    · skip
      have hnn : r.mx < n := by have := of_decide_eq_false hn; omega
      refine xp_exit ?_
      refine xp_ret ?_
      refine res_list (vs := []) Try.results54 trivial fun V => ?_
      obtain ⟨h9, E9, e9, V9⟩ := wl_drop [_] [some (c, gch ((lksR r rs k l n).map lkV ++ us))] V
      exact ⟨h9, _, e9, V9, Ext.trans E_n E9, by rw [lksR_end hnn]; rfl⟩
end
end Go.Proofs.Ytledjpdpkbifgaa
/- Walks of package bellow: the goroutine's body; known. Conditions: as each theorem states. -/
namespace Go.Proofs.Ytledjpdpkbifgaa
open Go Go.HL Go.Proofs Go.Wx Go.Rd Go.Bw Go.Conc
set_option maxRecDepth 100000
theorem truths2_ok {c bB bN bC : Nat} {hw R : AH} (b : BelP) (BB : BelB b) (A TA : Option Addr) (cA tA : Nat) (fin : Fin (hun hw (zf R))) (d : Disj hw R) (hwc : hw c = none) (hRc : R c = none) (N : NextK (hun hw (zf R)) b A TA cA tA c bB bN bC) :
    RW Try.prog c (QW R c [baseG Try.prog []] (WEnd 55 6 c #[104] 0 hw)) (baseG Try.prog [{ target := .fn (.func 55) #[.pointer (some ⟨bC, 0, none⟩), .pointer (some ⟨bN, 0, none⟩)], args := #[] }]) [] (hun hw (zw R c ((lksB b).map lkV))) := by
  letI : Lvl := ⟨false, some c, none⟩
  obtain ⟨t2, c2⟩ := N.c2
  obtain ⟨t3, f3, c3⟩ := N.c3
  refine worker_bodyN (args := #[]) Try.func55 rfl rfl Try.ntmps55 rfl fin d hwc hRc ?_
  generalize hun hw (zf R) = h at *
  refine xp_seq ?_
  refine xp_regionD rfl rfl ?_
  refine op_load (v := .chan (some c)) rfl rfl (by simp only [cellA, c3]; rfl) ?_
  refine goes_defer rfl rfl rfl rfl ?_
  refine goes_end ?_
  refine goes_norm [_] rfl ?_
  refine xp_region rfl ?_
  refine op_load (v := .func _ _ _) rfl rfl (by simp only [cellA, c2]; rfl) ?_
  refine op_pure (pv_buildA (zc := [_, _, _, _]) (vs := []) (cs := [_, _, _, _]) rfl rfl rfl rfl rfl rfl) ?_
  refine wp_norm [some (c, gch ((lksM b.corners 0 zero4).map lkV ++ []))] (by rw [List.append_nil]; rfl) ?_
  refine op_fnMM [] [_] [] (vs := _) rfl rfl rfl ((nextK_ok b BB A TA cA tA c bB bN bC rfl b.corners 0 rfl (Nat.zero_le _) zero4 [] h rfl (N.ext (Ext.refl _)))) ?_
  rintro _ h1 M1 E1 rfl
  refine wp_norm [_] rfl ?_
  exact ⟨rfl, fun V => ⟨_, rfl, V, E1⟩⟩
set_option maxHeartbeats 4000000 in
theorem known_okB [Lvl] (hph : Lvl.ph = true) (b : BelP) (BB : BelB b) (A TA : Option Addr) (cA tA : Nat) (ws : List Int) (hws : ∀ e ∈ ws, e = 0) (hwl : ws.length < 2 ^ 20) (WA : Option Addr) (cW : Nat) (h : AH) (R : Row h 2 rgC A b.corners) (RW : Row h 1 intC WA ws) :
    FnT Try.prog 22 #[belV A TA cA tA b, .slice WA ws.length cW] h (fun v h' => ∃ A2 c2, v = .tuple #[.slice A2 (lksB b).length c2, .int .i64 0] ∧ Row h' 4 tV A2 (lksB b)) := by
  have hB := lksB_len BB
  refine call_body Try.func22 rfl Try.ntmps22 rfl ?_
  refine xp_seq ?_
  refine xp_region rfl ?_
  refine op_box (v := .agg #[.int .i64 _, .int .i64 _, .int .i64 _, .slice _ _ _, .slice _ _ _]) (cs := [_, _, _, _, _]) rfl rfl fun b2 hb2 => ?_
  refine wp_norm [_] rfl ?_
  refine op_pure (pv_assign (v := .slice _ _ _) rfl) ?_
  refine op_pure (pv_assign (v := .int .i64 _) rfl) ?_
  refine xp_seq ?_
  refine xp_seq ?_
  refine xp_region rfl ?_
  refine op_loadPA 0 (vs := [.int .i64 _, .int .i64 _, .int .i64 _, .slice _ _ _, .slice _ _ _]) rfl rfl rfl rfl rfl ?_
  refine op_fn (caps := []) (vs := [.agg #[.int .i64 _, .int .i64 _, .int .i64 _, .slice _ _ _, .slice _ _ _]]) rfl rfl rfl (bCheck_ok b BB A TA cA tA h (R.ext (Ext.refl _))) ?_
  rintro _ e1 E1 rfl
  refine op_pure (pv_assign (v := .int .i64 _) rfl) ?_
  refine xp_seq ?_
  refine xp_region rfl ?_
  refine op_pure (pv_move (v := .int .i64 _) rfl) ?_
  refine op_pure (pv_of (v := .bool _) rfl) ?_
  refine xp_condF rfl (rfl) ?_
  refine xp_skip ?_
  refine xp_seq ?_
  refine xp_seq ?_
  refine xp_region rfl ?_
  refine op_pure (pv_move (v := .slice _ _ _) rfl) ?_
  refine op_pure (pv_len rfl rfl) ?_
  refine op_pure (pv_move (v := .int .i64 _) rfl) ?_
  refine xp_block ?_
  refine xp_loopB [4, 5, 8, 18, 19, 20, 21, 22, 23, 24, 25] 1 (α := Nat) (fun k => [(18, .int .i64 k)]) (fun k => _) (fun k h_k => k ≤ ws.length) (fun k => ws.length - k) (0) ⟨rfl, trivial⟩ (rfl) (Nat.zero_le _) ?_
  rintro k T1 h_k E_k J_k
  refine goes_norm [_] rfl ?_
  refine xp_seq ?_
  refine xp_region rfl ?_
  refine op_pure (pv_of (v := .bool _) rfl) ?_
  refine xp_seq ?_
  refine xp_cond rfl (fun hk => ?_) (fun hk => ?_)
  · skip
    have hkl : k < ws.length := ltI hk
    obtain ⟨g, off, hA, hc⟩ := (RW.ext (Ext.trans E1 E_k)).at (by omega) hkl
    rw [hws _ (List.getElem_mem hkl)] at hc
    refine xp_skip ?_
    refine xp_seq ?_
    refine xp_block ?_
    refine xp_seq ?_
    refine xp_region rfl ?_
    refine op_pure (pv_indexE rfl hA rfl rfl rfl (by omega) (by omega)) ?_
    refine op_load (v := .int .i64 _) rfl rfl ((hc) 0 _ rfl) ?_
    refine op_pure (pv_assign (v := .int .i64 _) rfl) ?_
    refine xp_seq ?_
    refine xp_region rfl ?_
    refine op_pure (pv_move (v := .int .i64 _) rfl) ?_
    refine op_pure (pv_of (v := .bool _) rfl) ?_
    refine xp_condF rfl (rfl) ?_
    refine xp_skip ?_
    refine xp_region rfl ?_
    refine op_pure (pv_arith rfl (by omega)) ?_
    refine op_pure (pv_move (v := .int .i64 _) rfl) ?_
    refine ⟨k + 1, ⟨rfl, trivial⟩, rfl, rfl, E_k, fun h3 E3 => hkl, by first | omega | (dsimp only; omega), ?_⟩
    repeat (first | exact off_base _ _ _ | refine off_upd (by decide) ?_ | refine off_updL rfl ?_ | refine off_mix rfl ?_)
  · skip
    refine xp_exit ?_
    refine xp_seq ?_
    refine xp_region rfl ?_
    refine op_pure (pv_assign (v := .slice _ _ _) rfl) ?_
    refine goes_goq fun H0 V0 b0 hb0 k0 cs0 => ?_
    refine goq_seq ?_
    refine goq_seq ?_
    refine goq_region1 trivial rfl ?_
    refine op_loadPA 0 (vs := [_, _, _, _, _]) rfl rfl rfl rfl rfl ?_
    refine goq_enter (vs := [belV A TA cA tA b]) rfl rfl rfl rfl Try.func39 rfl Try.ntmps39 rfl ?_
    refine goq_seq ?_
    refine goq_code rfl ?_
    refine xp_region rfl ?_
    refine op_box (v := belV A TA cA tA b) (cs := belC A TA cA tA b) rfl rfl fun b1 hb1 => ?_
    refine op_pure (pv_assign (v := _) rfl) ?_
    refine ⟨rfl, rfl, ?_⟩
    refine goq_norm [_, _] rfl ?_
    refine goq_seq ?_
    refine goq_code rfl ?_
    refine xp_region rfl ?_
    refine op_makeChan rfl rfl rfl fun c hc => ?_
    refine op_alloc (cs := [_]) rfl rfl fun b3 hb3 => ?_
    refine wp_norm [_, _, _, _] rfl ?_
    refine op_storeP 3 (v := .chan _) (vs := [_]) (c' := [_]) rfl rfl rfl rfl rfl rfl rfl rfl rfl ?_
    refine ⟨rfl, rfl, ?_⟩
    refine goq_norm [_, _, _, _] rfl ?_
    refine goq_seq ?_
    refine goq_code rfl ?_
    refine xp_region rfl ?_
    refine op_alloc (cs := [_]) rfl rfl fun b4 hb4 => ?_
    refine ⟨rfl, rfl, ?_⟩
    refine goq_norm [_, _, _, _, _] rfl ?_
    refine goq_seq ?_
    refine goq_code rfl ?_
    refine xp_region rfl ?_
    refine op_pure (pv_makeFunc (vs := []) (ws := [.pointer _, .pointer _, .pointer _]) rfl rfl) ?_
    refine op_storeP 4 (v := .func _ _ _) (vs := [_]) (c' := [_]) rfl rfl rfl rfl rfl rfl rfl rfl rfl ?_
    refine ⟨rfl, rfl, ?_⟩
    refine goq_norm [_, _, _, _, _] rfl ?_
    refine goq_seq ?_
    refine goq_region ?_
    refine goq_pv (i := 0) (rest := [1]) rfl trivial (pv_makeFunc (vs := []) (ws := [.pointer _, .pointer _]) rfl rfl) ?_
    refine goq_valid fun V => ?_
    obtain ⟨hw, fw, wc, w3, c3ne, wext, wcase, wsplit⟩ := wl_pick2 (i := 2) (j := 3) V rfl rfl (by intro e; cases e)
    have g1 := wl_get V (i := 1) rfl
    have gc := wl_get V (i := 2) rfl
    have g3 := wl_get V (i := 3) rfl
    have g4 := wl_get V (i := 4) rfl
    have n1c : b1 ≠ c := wl_ne V (i := 1) (j := 2) rfl rfl (by intro e; cases e)
    have n13 : b1 ≠ b3 := wl_ne V (i := 1) (j := 3) rfl rfl (by intro e; cases e)
    have n4c : b4 ≠ c := wl_ne V (i := 4) (j := 2) rfl rfl (by intro e; cases e)
    have n43 : b4 ≠ b3 := wl_ne V (i := 4) (j := 3) rfl rfl (by intro e; cases e)
    have w1 := wext _ _ g1 n1c n13
    have w4 := wext _ _ g4 n4c n43
    have Ew : Ext h_k hw := fun y o hy => wext y o (ext_wl V y o hy) (fun e => by subst e; rw [wl_fresh V (i := 2) rfl] at hy; cases hy) (fun e => by subst e; rw [wl_fresh V (i := 3) rfl] at hy; cases hy)
    obtain ⟨Z, hZ⟩ : ∃ Z, Z = oneC b3 (.cells #[.chan (some c)] 104 (0, 0)) := ⟨_, rfl⟩
    have fZ : Fin Z := by rw [hZ]; exact fin_one _ _
    have Zc : Z c = none := by rw [hZ]; exact oneC_ne c3ne
    have Z3 : Z b3 = some (.cells #[.chan (some c)] 104 (0, 0)) := by rw [hZ]; exact oneC_same _ _
    have rows : OnlyRows Z := fun y o hb => by
      rw [hZ] at hb
      by_cases e : y = b3
      · subst e; rw [oneC_same] at hb; cases hb; exact ⟨_, _, _, rfl⟩
      · rw [oneC_ne e] at hb; cases hb
    have dwZ : Disj hw Z := by rw [hZ]; exact disj_out w3
    obtain ⟨V1, e2⟩ := solo_priv (g := gch ((lksB b).map lkV)) fZ Zc
    have z3 : zf Z b3 = some (.cells #[.chan (some c)] 104 (0, 2)) := by simp only [zf, Z3]; rfl
    have N : NextK (hun hw (zf Z)) b A TA cA tA c b1 b4 b3 := ⟨R.ext (((Ext.trans E1 E_k)).trans (Ew.trans ext_hun)), ext_hun _ _ w1, ⟨_, ext_hun _ _ w4⟩, ⟨_, _, by simp only [hun, w3]; exact z3⟩⟩
    have rW := truths2_ok b BB A TA cA tA (fin_hun fw (fin_zf fZ)) dwZ wc Zc N
    refine goq_phase (hm := hnil) (QM := fun fr cs' H' => cs' = cs0 ∧ ∃ S' todo hm', H' = hun hm' (zx Z c) ∧ hm' c = none ∧ Disj hm' Z ∧ fr = { mk b0 39 S' [] todo with mode := .returning } ∧ ∃ A2 c2, S' 4 = .slice A2 (lksB b).length c2 ∧ S' 5 = .int .i64 0 ∧ Row hm' 4 tV A2 (lksB b)) hph rfl rfl rfl rfl rows (fun _ => .inl rfl) (fun _ => .inl rfl) dwZ rfl wc Zc (fun _ => by rw [hZ]; exact wsplit) V1 e2 ?gm ?hqm (wend_close rfl rfl) rW ?join
    case hqm =>
      rintro fr cs' H' ⟨rfl, S', todo, hm', e, k1, k2, _⟩
      exact ⟨hm', e, k1, k2⟩
    case join =>
      rintro fr cs' hm' fr' hw' s r ⟨rfl, S', todo, hm2, e, k1, k2, rfl, A2, c2, k4, k5, kr⟩ ⟨EW, _⟩ d1 d2 d3 n1 n2 fin
      have eh := zx_inj e n1 k1 d2 k2
      subst eh
      refine ⟨rfl, .ret, S', [], [], hun hm' (hun hw' (hun Z (oneC c (.chan 0 #[] true s r false)))), ?_, ?_, fun _ => ⟨todo, rfl⟩, fun h => absurd hb0 h⟩
      · have := Fits.nil (valid_nil fin)
        rw [wl_nil] at this
        exact this
      · refine res_list (vs := [_, _]) Try.results22 ⟨resV_tmp rfl k4, resV_tmp rfl k5, trivial⟩ fun V => ?_
        rw [wl_nil]
        refine ⟨fun y o hy => ?_, A2, c2, rfl, kr.ext ext_hun⟩
        have e2 := EW y o (Ew y o ((Ext.trans E1 E_k) y o hy))
        have e3 : hm' y = none := (d1 y).resolve_right (by rw [e2]; simp)
        simp only [hun, e3, e2]
    case gm =>
      have c7 : cellA (zf Z) ⟨b3, 0, none⟩ = some (.chan (some c)) := by simp only [cellA, z3]; rfl
      letI : Lvl := ⟨false, none, some c⟩
      refine goq_end ?_
      refine goq_seq ?_
      refine goq_code rfl ?_
      refine xp_region rfl ?_
      refine op_load (v := .chan (some c)) rfl rfl c7 ?_
      refine op_pure (pv_assign (v := .chan (some c)) rfl) ?_
      refine ⟨rfl, rfl, ?_⟩
      refine goq_ret Try.func39 rfl rfl rfl rfl ?_
      refine res_list (vs := [_]) Try.results39 ⟨resV_tmp rfl rfl, trivial⟩ fun V2 => ?_
      refine ⟨rfl, ?_⟩
      refine goq_end ?_
      refine goq_last (items := [.code _] ++ [.code _]) (K := fun e S' D' L' h' => e = .ret ∧ D' = [] ∧ (Valid h' L' → ∃ hm', wl h' L' = hun hm' (zx Z c) ∧ hm' c = none ∧ Disj hm' Z ∧ ∃ A2 c2, S' 4 = .slice A2 (lksB b).length c2 ∧ S' 5 = .int .i64 0 ∧ Row hm' 4 tV A2 (lksB b))) hb0 (goes_append (x := [.code _]) (y := [.code _]) trivial ?_) ?_
      · skip
        refine goes_more ?_
        refine goes_norm [_, _] rfl ?_
        refine xp_block ?_
        refine xp_loopL [9, 10, 28, 29, 30, 31, 32, 33, 34] 2 (α := List (List Int) × Acc) (fun ⟨us, a⟩ => [(9, .slice a.A a.n a.c)]) (fun ⟨us, a⟩ L => (L.set 0 (some (c, gch (us.map lkV)))).set 1 (a.p)) (fun ⟨us, a⟩ h_us => ∃ dn, dn ++ us = lksB b ∧ AccR 83 4 (dn.flatMap tV) a) (fun ⟨us, a⟩ => us.length) ((lksB b, acc0)) ⟨rfl, trivial⟩ (rfl) (⟨[], rfl, accR0⟩) ?_
        rintro ⟨us, a⟩ T2 h_us E_us J_us
        refine goes_norm [_, _] rfl ?_
        obtain ⟨dn, J1, J2⟩ := J_us
        have hdl : dn.length ≤ 1296 := by rw [← J1, List.length_append] at hB; omega
        have h4 : ∀ x ∈ dn ++ us, x.length = 4 := fun x hx => lksM_len4 b.corners 0 zero4 rfl x (by rw [J1] at hx; exact hx)
        have hfl : (dn.flatMap tV).length = dn.length * 4 := flat_len fun x hx => by rw [List.length_map, h4 x (List.mem_append_left _ hx)]
        rcases us with _ | ⟨u, us⟩
        · skip
          refine xp_seq ?_
          refine xp_regionL ?_
          refine goes_last (i := 0) (rest := [1]) (j := 0) rfl rfl rfl rfl rfl rfl rfl rfl ?_
          refine goes_pv (items := []) (i := 1) (rest := []) rfl trivial (pv_of (v := .bool false) rfl) ?_
          refine goes_end ?_
          refine goes_norm [_, _] rfl ?_
          refine xp_seq ?_
          refine xp_condF rfl (rfl) ?_
          rw [List.append_nil] at J1
          have hn := J2.len
          rw [hfl] at hn
          have hn2 : a.n = dn.length := by omega
          have hne := lksM_ne b.corners 0 zero4 BB.cb
          have hnz : 0 < dn.length := by rw [J1]; exact List.length_pos_iff.2 hne
          refine xp_exit ?_
          refine xp_seq ?_
          refine xp_seq ?_
          refine xp_region rfl ?_
          refine op_pure (pv_move (v := .slice _ _ _) rfl) ?_
          refine op_pure (pv_len rfl rfl) ?_
          refine op_pure (pv_of (v := .bool _) rfl) ?_
          refine xp_condF rfl (decide_eq_false (by omega)) ?_
          refine xp_skip ?_
          refine xp_seq ?_
          refine xp_region rfl ?_
          refine op_pure (pv_move (v := .slice _ _ _) rfl) ?_
          refine op_pure (pv_assign (v := .slice _ _ _) rfl) ?_
          refine op_pure (pv_assign (v := .int .i64 _) rfl) ?_
          refine xp_ret ?_
          refine ⟨rfl, rfl, fun V2 => ?_⟩
          obtain ⟨hm', k1, k2, k3, k4⟩ := main_end V2 (j := 0) rfl E_us Zc
          rw [← J1]
          refine ⟨hm', k1, k2, k3, a.A, a.c, by rw [← hn2]; rfl, rfl, fun x hx => by rw [List.length_map, h4 x (List.mem_append_left _ hx)], J2.rd fun y o hy => ?_⟩
          refine k4 y o (wl_get V2 (i := 1) (by rw [← hy]; rfl)) (fun e => ?_) ?_
          · subst e
            have e3 := wl_get V2 (i := 1) (b := y) (o := o) (by rw [← hy]; rfl)
            rw [wl_get V2 (i := 0) (b := y) (o := gone) rfl] at e3
            cases e3
            rcases J2 with ⟨e5, _⟩ | ⟨_, _, _, _, _, _, e5, _⟩
            · rw [e5] at hy; cases hy
            · rw [e5] at hy; cases hy
          · rw [hZ]
            refine oneC_ne fun e => ?_
            subst e
            have e3 : h_us y = none := wl_fresh V2 (i := 1) (o := o) (by rw [← hy]; rfl)
            have e4 := (E_us) _ _ z3
            rw [e3] at e4
            cases e4
        · skip
          obtain ⟨u0, u1, u2, u3, rfl⟩ := len4 (h4 u (List.mem_append_right _ (List.mem_cons_self ..)))
          have hlt : us.length < ([u0, u1, u2, u3] :: us).length := by simp
          refine xp_seq ?_
          refine xp_regionL ?_
          refine goes_recv (i := 0) (rest := [1]) (j := 0) (v := lkV [u0, u1, u2, u3]) (vs := us.map lkV) rfl rfl rfl rfl rfl rfl rfl rfl ?_
          refine goes_pv (items := []) (i := 1) (rest := []) rfl trivial (pv_of (v := .bool true) rfl) ?_
          refine goes_end ?_
          refine goes_norm [_, _] rfl ?_
          refine xp_seq ?_
          refine xp_condT rfl (rfl) ?_
          refine xp_skip ?_
          refine xp_block ?_
          refine xp_seq ?_
          refine xp_region rfl ?_
          refine op_pure (pv_of (v := .agg #[.int .i64 _, .int .i64 _, .int .i64 _, .int .i64 _]) rfl) ?_
          refine op_alloc (cs := [_, _, _, _]) rfl rfl fun b10 hb10 => ?_
          refine wp_norm [_, _, _] rfl ?_
          refine op_storeP 2 (v := .agg #[.int .i64 _, .int .i64 _, .int .i64 _, .int .i64 _]) (vs := [_, _, _, _]) (c' := [_, _, _, _]) rfl rfl rfl rfl rfl rfl rfl rfl rfl ?_
          refine wp_norm [_, _, _] rfl ?_
          refine xp_region rfl ?_
          refine op_pure (pv_move (v := .slice _ _ _) rfl) ?_
          refine op_loadPA 2 (vs := [.int .i64 _, .int .i64 _, .int .i64 _, .int .i64 _]) rfl rfl rfl rfl rfl ?_
          refine op_buildSlice (zc := [_, _, _, _]) (vs := [(0, .agg #[.int .i64 _, .int .i64 _, .int .i64 _, .int .i64 _])]) (cs := [_, _, _, _]) rfl rfl rfl rfl rfl rfl rfl fun b33 hb33 => ?_
          refine wp_norm [_, _, _, _] rfl ?_
          refine op_appendR 1 J2 rfl rfl rfl (fun V => rdP V (i := 3) rfl) rfl rfl rfl rfl rfl rfl rfl rfl rfl (by omega) rfl (by rw [hfl]; simp; omega) fun a2 h3a E3a ha2 => ?_
          refine wp_norm [_, _, _, _] rfl ?_
          refine op_pure (pv_assign (v := .slice _ _ _) rfl) ?_
          refine ⟨(us, a2), ⟨rfl, trivial⟩, rfl, rfl, (Ext.trans E_us E3a), fun h3 E3 => ⟨dn ++ [[u0, u1, u2, u3]], by rw [List.append_assoc]; exact J1, by rw [List.flatMap_append]; exact ha2⟩, by first | omega | (dsimp only; omega), ?_⟩
          repeat (first | exact off_base _ _ _ | refine off_upd (by decide) ?_ | refine off_updL rfl ?_ | refine off_mix rfl ?_)
      · rintro fr H' e S' D' L' h' F' ⟨rfl, rfl, kk⟩ a
        obtain ⟨hm', e2, e3, d8, kk⟩ := kk F'.valid
        obtain ⟨todo, rfl⟩ := a.1 hb0
        exact ⟨rfl, S', todo, hm', (wl_of F' rfl).trans e2, e3, d8, rfl, kk⟩
end Go.Proofs.Ytledjpdpkbifgaa
/- Walks of package bellow: span, Leak. Conditions: as each theorem states. -/
namespace Go.Proofs.Ytledjpdpkbifgaa
open Go Go.HL Go.Proofs Go.Wx Go.Rd Go.Bw
section
variable [Lvl]
set_option maxRecDepth 100000
/-- The closure that sums. -/
theorem leak1_ok (l : List Int) (hl4 : l.length = 4) (hb : ∀ x ∈ l, 0 ≤ x ∧ x ≤ 5) (cs : List Int) (hcs : ∀ c ∈ cs, 0 ≤ c ∧ c < 4) (hcl : cs.length ≤ 4) (A : Option Addr) (cA : Nat) (b6 : Nat) (h : AH) (R : Row h 1 intC A cs)
    (e6 : h b6 = some (.cells #[.slice A cs.length cA] 22 (0, 0))) : FnT Try.prog 25 #[lkV l, .pointer (some ⟨b6, 0, none⟩)] h (fun v _ => v = .int .i64 (sumAt l cs)) := by
  obtain ⟨a, b, c, d, rfl⟩ := len4 hl4
  refine call_body Try.func25 rfl Try.ntmps25 rfl ?_
  refine xp_seq ?_
  refine xp_region rfl ?_
  refine op_box (v := .agg #[.int .i64 _, .int .i64 _, .int .i64 _, .int .i64 _]) (cs := [_, _, _, _]) rfl rfl fun b2 hb2 => ?_
  refine wp_norm [_] rfl ?_
  refine op_pure (pv_assign (v := .int .i64 _) rfl) ?_
  refine xp_seq ?_
  refine xp_region rfl ?_
  refine op_loadPA 0 (vs := [.int .i64 _, .int .i64 _, .int .i64 _, .int .i64 _]) rfl rfl rfl rfl rfl ?_
  refine op_load (v := .slice _ _ _) rfl rfl (by simp only [cellA, e6]; rfl) ?_
  refine op_fn (caps := []) (vs := [.agg #[.int .i64 _, .int .i64 _, .int .i64 _, .int .i64 _], .slice _ _ _]) rfl rfl rfl (total_ok [a, b, c, d] hl4 hb cs hcs hcl A cA h (R.ext (Ext.refl _))) ?_
  rintro _ e1 E1 rfl
  refine op_pure (pv_assign (v := .int .i64 _) rfl) ?_
  refine xp_ret ?_
  refine res_list (vs := [_]) Try.results25 ⟨resV_tmp rfl rfl, trivial⟩ fun V => ?_
  exact ⟨(Ext.trans E1 (ext_wl V)), rfl⟩
set_option maxHeartbeats 2000000 in
theorem span_ok (ls : List (List Int)) (h4 : ∀ l ∈ ls, l.length = 4) (hb : ∀ l ∈ ls, ∀ x ∈ l, 0 ≤ x ∧ x ≤ 5) (hne : 0 < ls.length) (hll : ls.length ≤ 1296) (cs : List Int) (hcs : ∀ c ∈ cs, 0 ≤ c ∧ c < 4) (hcl : cs.length ≤ 4) (A LA : Option Addr) (cA cL : Nat) (b6 : Nat) (h : AH) (R : Row h 1 intC A cs)
    (e6 : h b6 = some (.cells #[.slice A cs.length cA] 22 (0, 0))) (RL : Row h 4 tV LA ls) :
    FnT Try.prog 24 #[.slice LA ls.length cL, .func (.func 25) #[] #[.pointer (some ⟨b6, 0, none⟩)]] h (fun v _ => v = rgV ⟨mnK (sumAt · cs) (sumAt ls[0] cs) ls, mxK (sumAt · cs) (sumAt ls[0] cs) ls⟩) := by
  obtain ⟨g, off, hA, hc0⟩ := RL.at (by omega) hne
  have q4 := h4 _ (List.getElem_mem hne)
  have qb := hb _ (List.getElem_mem hne)
  generalize ls[0] = l0 at *
  obtain ⟨a, b, c, d, rfl⟩ := len4 q4
  refine call_body Try.func24 rfl Try.ntmps24 rfl ?_
  have s0 := sumAt_le (cs := cs) qb
  refine xp_seq ?_
  refine xp_region rfl ?_
  refine op_alloc (cs := [_, _]) rfl rfl fun b4 hb4 => ?_
  refine wp_norm [_] rfl ?_
  refine xp_seq ?_
  refine xp_dw [] rfl rfl rfl ?_
  refine dw_pure (i := 0) rfl (by decide +kernel) (pv_move (v := _) rfl) ?_
  refine dw_pure (i := 1) rfl (by decide +kernel) (pv_move (v := .slice _ _ _) rfl) ?_
  refine dw_pure (i := 2) rfl (by decide +kernel) (pv_indexE (i := 0) rfl hA rfl rfl rfl (by omega) (by omega)) ?_
  refine dw_load (i := 3) rfl (by decide +kernel) ?_
  refine op_loadA rfl rfl rfl rfl (hc0) ?_
  refine dw_pure (i := 5) rfl (by decide +kernel) (pv_move (v := _) rfl) ?_
  refine dw_pure (i := 6) rfl (by decide +kernel) (pv_move (v := .slice _ _ _) rfl) ?_
  refine dw_pure (i := 7) rfl (by decide +kernel) (pv_indexE (i := 0) rfl hA rfl rfl rfl (by omega) (by omega)) ?_
  refine dw_load (i := 8) rfl (by decide +kernel) ?_
  refine op_loadA rfl rfl rfl rfl (hc0) ?_
  refine dw_eff (i := 4) rfl (by decide +kernel) ?_
  refine op_fn  (vs := _) rfl rfl rfl (leak1_ok [a, b, c, d] rfl qb cs hcs hcl A cA b6 h (R.ext (Ext.refl _)) ((Ext.refl _) _ _ e6)) ?_
  rintro _ e1 E1 rfl
  refine ⟨ext_wlm E1 _, ?_⟩
  refine dw_last (i := 9) rfl (by decide +kernel) (by decide +kernel) ?_
  refine op_fn  (vs := _) rfl rfl rfl (leak1_ok [a, b, c, d] rfl qb cs hcs hcl A cA b6 e1 (R.ext E1) (E1 _ _ e6)) ?_
  rintro _ e2 E2 rfl
  refine dw_pure (i := 10) rfl (by decide +kernel) (pv_build (zc := [_, _]) (vs := [(0, .int .i64 _), (1, .int .i64 _)]) (cs := [_, _]) rfl rfl rfl rfl rfl rfl) ?_
  refine dw_eff (i := 11) rfl (by decide +kernel) ?_
  refine op_alloc (cs := [_, _]) rfl rfl fun b5 hb5 => ?_
  refine ⟨ext_new hb5 _, ?_⟩
  refine dw_norm [_, _] rfl ?_
  refine dw_last (i := 12) rfl (by decide +kernel) (by decide +kernel) ?_
  refine op_storeP 1 (v := .agg #[.int .i64 _, .int .i64 _]) (vs := [_, _]) (c' := [_, _]) rfl rfl rfl rfl rfl rfl rfl rfl rfl ?_
  refine dw_norm [_, _] rfl ?_
  refine dw_end rfl ?_
  refine xp_seq ?_
  refine xp_seq ?_
  refine xp_region rfl ?_
  refine op_pure (pv_move (v := .slice _ _ _) rfl) ?_
  refine op_pure (pv_len rfl rfl) ?_
  refine op_pure (pv_move (v := .int .i64 _) rfl) ?_
  refine xp_block ?_
  refine xp_loopL [7, 21, 22, 23, 24, 25, 26, 27, 28, 29, 30, 31, 32, 33, 34, 35, 36, 37, 38] 2 (α := Nat) (fun k => [(21, .int .i64 k)]) (fun k L => L.set 1 (some (b5, .cells #[.int .i64 (mnK (sumAt · cs) (sumAt [a, b, c, d] cs) (ls.take k)), .int .i64 (mxK (sumAt · cs) (sumAt [a, b, c, d] cs) (ls.take k))] 36 (0, 0)))) (fun k h_k => k ≤ ls.length) (fun k => ls.length - k) (0) ⟨rfl, trivial⟩ (rfl) (Nat.zero_le _) ?_
  rintro k T1 h_k E_k J_k
  refine goes_norm [_, _] rfl ?_
  refine xp_seq ?_
  refine xp_region rfl ?_
  refine op_pure (pv_of (v := .bool _) rfl) ?_
  refine xp_seq ?_
  refine xp_cond rfl (fun hk => ?_) (fun hk => ?_)
  · skip
    have hkl : k < ls.length := ltI hk
    obtain ⟨g2, off2, hA2, hck⟩ := (RL.ext (Ext.trans (Ext.trans E1 E2) E_k)).at (by omega) hkl
    have e4 := h4 _ (List.getElem_mem hkl)
    have eb := hb _ (List.getElem_mem hkl)
    obtain ⟨u, hu⟩ : ∃ u, u = ls[k] := ⟨_, rfl⟩
    rw [← hu] at hck e4 eb
    obtain ⟨u0, u1, u2, u3, rfl⟩ := len4 e4
    refine xp_skip ?_
    refine xp_seq ?_
    refine xp_block ?_
    refine xp_seq ?_
    refine xp_region rfl ?_
    refine op_pure (pv_indexE rfl hA2 rfl rfl rfl (by omega) (by omega)) ?_
    refine op_loadA rfl rfl rfl rfl (hck) ?_
    refine op_alloc (cs := [_, _, _, _]) rfl rfl fun b7 hb7 => ?_
    refine wp_norm [_, _, _] rfl ?_
    refine op_storeP 2 (v := .agg #[.int .i64 _, .int .i64 _, .int .i64 _, .int .i64 _]) (vs := [_, _, _, _]) (c' := [_, _, _, _]) rfl rfl rfl rfl rfl rfl rfl rfl rfl ?_
    refine wp_norm [_, _, _] rfl ?_
    refine xp_dw [] rfl rfl rfl ?_
    refine dw_pure (i := 0) rfl (by decide +kernel) (pv_fieldAddr rfl rfl rfl rfl 0 rfl) ?_
    refine dw_load (i := 1) rfl (by decide +kernel) ?_
    refine op_loadP 1 (v := .int .i64 _) rfl rfl rfl rfl ?_
    refine dw_pure (i := 2) rfl (by decide +kernel) (pv_move (v := _) rfl) ?_
    refine dw_load (i := 3) rfl (by decide +kernel) ?_
    refine op_loadPA 2 (vs := [.int .i64 _, .int .i64 _, .int .i64 _, .int .i64 _]) rfl rfl rfl rfl rfl ?_
    refine dw_pure (i := 6) rfl (by decide +kernel) (pv_fieldAddr rfl rfl rfl rfl 1 rfl) ?_
    refine dw_load (i := 7) rfl (by decide +kernel) ?_
    refine op_loadP 1 (v := .int .i64 _) rfl rfl rfl rfl ?_
    refine dw_pure (i := 8) rfl (by decide +kernel) (pv_move (v := _) rfl) ?_
    refine dw_load (i := 9) rfl (by decide +kernel) ?_
    refine op_loadPA 2 (vs := [.int .i64 _, .int .i64 _, .int .i64 _, .int .i64 _]) rfl rfl rfl rfl rfl ?_
    refine dw_eff (i := 4) rfl (by decide +kernel) ?_
    refine op_fn  (vs := _) rfl rfl rfl (leak1_ok [u0, u1, u2, u3] rfl eb cs hcs hcl A cA b6 h_k (R.ext (Ext.trans (Ext.trans E1 E2) E_k)) ((Ext.trans (Ext.trans E1 E2) E_k) _ _ e6)) ?_
    rintro _ e3 E3 rfl
    refine ⟨ext_wlm E3 _, ?_⟩
    refine dw_pure (i := 5) rfl (by decide +kernel) (pv_min rfl rfl) ?_
    refine dw_eff (i := 10) rfl (by decide +kernel) ?_
    refine op_fn  (vs := _) rfl rfl rfl (leak1_ok [u0, u1, u2, u3] rfl eb cs hcs hcl A cA b6 e3 (R.ext (Ext.trans (Ext.trans (Ext.trans E1 E2) E_k) E3)) ((Ext.trans (Ext.trans (Ext.trans E1 E2) E_k) E3) _ _ e6)) ?_
    rintro _ e4 E4 rfl
    refine ⟨ext_wlm E4 _, ?_⟩
    refine dw_pure (i := 11) rfl (by decide +kernel) (pv_max rfl rfl) ?_
    refine dw_pure (i := 12) rfl (by decide +kernel) (pv_build (zc := [_, _]) (vs := [(0, .int .i64 _), (1, .int .i64 _)]) (cs := [_, _]) rfl rfl rfl rfl rfl rfl) ?_
    refine dw_last (i := 13) rfl (by decide +kernel) (by decide +kernel) ?_
    refine op_storeP 1 (v := .agg #[.int .i64 _, .int .i64 _]) (vs := [_, _]) (c' := [_, _]) rfl rfl rfl rfl rfl rfl rfl rfl rfl ?_
    refine dw_norm [_, _, _] rfl ?_
    refine dw_end rfl ?_
    refine xp_region rfl ?_
    refine op_pure (pv_arith rfl (by omega)) ?_
    refine op_pure (pv_move (v := .int .i64 _) rfl) ?_
    refine ⟨k + 1, ⟨rfl, trivial⟩, rfl, by rw [take_snoc hkl, mnK_snoc, mxK_snoc, ← hu]; rfl, (Ext.trans (Ext.trans E_k E3) E4), fun h3 E3 => hkl, by first | omega | (dsimp only; omega), ?_⟩
    repeat (first | exact off_base _ _ _ | refine off_upd (by decide) ?_ | refine off_updL rfl ?_ | refine off_mix rfl ?_)
  · skip
    have hke : k = ls.length := by have := geI hk; omega
    subst hke
    refine xp_exit ?_
    refine xp_seq ?_
    refine xp_region rfl ?_
    refine op_loadPA 1 (vs := [.int .i64 _, .int .i64 _]) rfl rfl rfl rfl rfl ?_
    refine op_storeP 0 (v := .agg #[.int .i64 _, .int .i64 _]) (vs := [_, _]) (c' := [_, _]) rfl rfl rfl rfl rfl rfl rfl rfl rfl ?_
    refine wp_norm [_, _] rfl ?_
    refine xp_ret ?_
    refine res_list (vs := [_]) Try.results24 ⟨resV_agg 0 rfl rfl rfl rfl rfl (vs := [.int .i64 _, .int .i64 _]) rfl, trivial⟩ fun V => ?_
    exact ⟨(Ext.trans (Ext.trans (Ext.trans E1 E2) E_k) (ext_wl V)), by rw [List.take_length]; rfl⟩
def leakP (b : BelP) : Rg := ⟨mnK (sumAt · (iota b.corners.length)) (sumAt ((lksB b).headD []) (iota b.corners.length)) (lksB b), mxK (sumAt · (iota b.corners.length)) (sumAt ((lksB b).headD []) (iota b.corners.length)) (lksB b)⟩
theorem Leak_ok (hph : Lvl.ph = true) (b : BelP) (BB : BelB b) (A TA : Option Addr) (cA tA : Nat) (h : AH) (R : Row h 2 rgC A b.corners) :
    FnT Try.prog 8 #[belV A TA cA tA b] h (fun v _ => v = .tuple #[rgV (leakP b), .int .i64 0]) := by
  have B4 := BB.c4
  have hB := lksB_len BB
  have hpos : 0 < (lksB b).length := List.length_pos_iff.2 (lksM_ne b.corners 0 zero4 BB.cb)
  refine call_body Try.func8 rfl Try.ntmps8 rfl ?_
  refine xp_seq ?_
  refine xp_region rfl ?_
  refine op_box (v := .agg #[.int .i64 _, .int .i64 _, .int .i64 _, .slice _ _ _, .slice _ _ _]) (cs := [_, _, _, _, _]) rfl rfl fun b1 hb1 => ?_
  refine wp_norm [_] rfl ?_
  refine op_alloc (cs := [_, _]) rfl rfl fun b2 hb2 => ?_
  refine wp_norm [_, _] rfl ?_
  refine op_pure (pv_assign (v := .int .i64 _) rfl) ?_
  refine xp_seq ?_
  refine xp_region rfl ?_
  refine op_loadPA 0 (vs := [.int .i64 _, .int .i64 _, .int .i64 _, .slice _ _ _, .slice _ _ _]) rfl rfl rfl rfl rfl ?_
  refine op_fn (caps := []) (vs := [.agg #[.int .i64 _, .int .i64 _, .int .i64 _, .slice _ _ _, .slice _ _ _], .slice _ _ _]) rfl rfl rfl (known_okB hph b BB A TA cA tA [] (fun _ h => (by cases h)) (by decide) none 0 h (R.ext (Ext.refl _)) ⟨fun _ h => (by cases h), Rd.nil _ _⟩) ?_
  rintro _ e1 E1 ⟨LA, cL, rfl, RL⟩
  refine op_pure (pv_move (v := .tuple #[.slice _ _ _, .int .i64 _]) rfl) ?_
  refine op_pure (pv_of (v := .slice _ _ _) rfl) ?_
  refine op_pure (pv_of (v := .int .i64 _) rfl) ?_
  refine op_pure (pv_assign (v := .slice _ _ _) rfl) ?_
  refine op_pure (pv_assign (v := .int .i64 _) rfl) ?_
  refine xp_seq ?_
  refine xp_seq ?_
  refine xp_region rfl ?_
  refine op_pure (pv_move (v := .int .i64 _) rfl) ?_
  refine op_pure (pv_of (v := .bool _) rfl) ?_
  refine xp_condF rfl (rfl) ?_
  refine xp_skip ?_
  refine xp_seq ?_
  refine xp_region rfl ?_
  refine op_loadPA 0 (vs := [.int .i64 _, .int .i64 _, .int .i64 _, .slice _ _ _, .slice _ _ _]) rfl rfl rfl rfl rfl ?_
  refine op_fn (caps := []) (vs := [.agg #[.int .i64 _, .int .i64 _, .int .i64 _, .slice _ _ _, .slice _ _ _], .slice _ _ _]) rfl rfl rfl (corners_ok b BB A TA cA tA e1) ?_
  rintro _ e2 E2 ⟨CA, cC, rfl, RC⟩
  refine op_alloc (cs := [_]) rfl rfl fun b6 hb6 => ?_
  refine wp_norm [_, _, _] rfl ?_
  refine op_storeP 2 (v := .slice _ _ _) (vs := [_]) (c' := [_]) rfl rfl rfl rfl rfl rfl rfl rfl rfl ?_
  refine wp_norm [_, _, _] rfl ?_
  refine goes_pub 2 rfl ?_
  intro h6 E6 p6
  refine xp_seq ?_
  refine xp_region rfl ?_
  refine op_pure (pv_move (v := .slice _ _ _) rfl) ?_
  refine op_pure (pv_makeFunc (vs := []) (ws := [_]) rfl rfl) ?_
  refine op_fn (caps := []) (vs := [.slice _ _ _, _]) rfl rfl rfl ((span_ok (lksB b) (fun l hl => lksM_len4 b.corners 0 zero4 rfl l hl) (fun l hl => lksB_el BB l hl) hpos hB (iota b.corners.length) (fun c hc => by have := iota_mem hc; omega) (by rw [iota_len]; exact B4) CA LA cC cL b6 h6 (by have := RC.ext E6; exact this) (by rw [iota_len]; exact ((Ext.refl _) _ _ p6)) (RL.ext (Ext.trans E2 E6)))) ?_
  rintro _ e3 E3 rfl
  refine op_storeP 1 (v := .agg #[.int .i64 _, .int .i64 _]) (vs := [_, _]) (c' := [_, _]) rfl rfl rfl rfl rfl rfl rfl rfl rfl ?_
  refine wp_norm [_, _, _] rfl ?_
  refine op_pure (pv_assign (v := .int .i64 _) rfl) ?_
  refine xp_ret ?_
  refine res_list (vs := [_, _]) Try.results8 ⟨resV_agg 1 rfl rfl rfl rfl rfl (vs := [.int .i64 _, .int .i64 _]) rfl, resV_tmp rfl rfl, trivial⟩ fun V => ?_
  have e0 : (lksB b).headD [] = (lksB b)[0] := by simp [List.headD_eq_head?_getD, List.head?_eq_getElem?, List.getElem?_eq_getElem hpos]
  exact ⟨(Ext.trans (Ext.trans (Ext.trans (Ext.trans E1 E2) E6) E3) (ext_wl V)), by rw [leakP, e0]; rfl⟩
end
end Go.Proofs.Ytledjpdpkbifgaa
/- Bellows without tests: what leaks in all is between the sums of the corners' ranges. Conditions: none. -/
namespace Go.Bw
open Go Go.HL Go.Wx Go.Rd
variable [Lvl]
theorem mnK_le {α : Type} (f : α → Int) : ∀ (l : List α) (x : Int), mnK f x l ≤ x
  | [], x => Int.le_refl x
  | y :: l, x => by
    show mnK f (min x (f y)) l ≤ x
    have := mnK_le f l (min x (f y))
    omega
theorem mnK_mem {α : Type} (f : α → Int) : ∀ (l : List α) (x : Int), ∀ y ∈ l, mnK f x l ≤ f y
  | [], x, y, h => by cases h
  | z :: l, x, y, h => by
    show mnK f (min x (f z)) l ≤ f y
    rcases List.mem_cons.1 h with rfl | h
    · have := mnK_le f l (min x (f y)); omega
    · exact mnK_mem f l _ y h
theorem mnK_ge {α : Type} (f : α → Int) (m : Int) : ∀ (l : List α) (x : Int), m ≤ x → (∀ y ∈ l, m ≤ f y) → m ≤ mnK f x l
  | [], x, h, _ => h
  | y :: l, x, h, hl => by
    have := hl y (List.mem_cons_self ..)
    exact mnK_ge f m l (min x (f y)) (by omega) fun z hz => hl z (List.mem_cons_of_mem _ hz)
theorem mxK_ge {α : Type} (f : α → Int) : ∀ (l : List α) (x : Int), x ≤ mxK f x l
  | [], x => Int.le_refl x
  | y :: l, x => by
    show x ≤ mxK f (max x (f y)) l
    have := mxK_ge f l (max x (f y))
    omega
theorem mxK_mem {α : Type} (f : α → Int) : ∀ (l : List α) (x : Int), ∀ y ∈ l, f y ≤ mxK f x l
  | [], x, y, h => by cases h
  | z :: l, x, y, h => by
    show f y ≤ mxK f (max x (f z)) l
    rcases List.mem_cons.1 h with rfl | h
    · have := mxK_ge f l (max x (f y)); omega
    · exact mxK_mem f l _ y h
theorem mxK_le {α : Type} (f : α → Int) (m : Int) : ∀ (l : List α) (x : Int), x ≤ m → (∀ y ∈ l, f y ≤ m) → mxK f x l ≤ m
  | [], x, h, _ => h
  | y :: l, x, h, hl => by
    have := hl y (List.mem_cons_self ..)
    exact mxK_le f m l (max x (f y)) (by omega) fun z hz => hl z (List.mem_cons_of_mem _ hz)
/-- The sum of a list's first places. -/
def sumT (l : List Int) (n : Nat) : Int := (l.take n).sum
theorem sumAt_iota (l : List Int) : ∀ n, n ≤ l.length → sumAt l (iota n) = sumT l n
  | 0, _ => by simp [sumAt, iota, sumT]
  | n + 1, h => by
    rw [iota_succ, sumAt_snoc, sumAt_iota l n (by omega), sumT, sumT, List.take_succ_eq_append_getElem (by omega), List.sum_append]
    have : ((n : Int)).toNat = n := by omega
    rw [this, List.getD_eq_getElem?_getD, List.getElem?_eq_getElem (by omega)]
    simp
def sumMn (rs : List Rg) : Int := (rs.map (·.mn)).sum
def sumMx (rs : List Rg) : Int := (rs.map (·.mx)).sum
theorem set_take {l : List Int} {k : Nat} (x : Int) (hk : k < l.length) : (l.set k x).take (k + 1) = l.take k ++ [x] := by
  rw [List.take_succ_eq_append_getElem (by rw [List.length_set]; exact hk), List.take_set_of_le (Nat.le_refl k), List.getElem_set_self]
theorem lks_sum : ∀ (rs : List Rg) (k : Nat) (l : List Int), k + rs.length ≤ l.length → ∀ y ∈ lksM rs k l, sumT l k + sumMn rs ≤ sumT y (k + rs.length) ∧ sumT y (k + rs.length) ≤ sumT l k + sumMx rs
  | [], k, l, _, y, hy => by
    cases List.mem_singleton.1 hy
    simp [sumMn, sumMx]
  | r :: rs, k, l, hl, y, hy => by
    rw [List.length_cons] at hl
    obtain ⟨n, h1, h2⟩ := List.mem_flatMap.1 hy
    have h3 := mem_rangeI.1 h1
    have ih := lks_sum rs (k + 1) (l.set k n) (by rw [List.length_set]; omega) y h2
    have e : sumT (l.set k n) (k + 1) = sumT l k + n := by
      unfold sumT
      rw [set_take n (by omega), List.sum_append]
      simp
    rw [e] at ih
    rw [List.length_cons, show k + (rs.length + 1) = k + 1 + rs.length from by omega]
    simp only [sumMn, sumMx, List.map_cons, List.sum_cons] at ih ⊢
    omega
theorem lks_at : ∀ (rs : List Rg) (k : Nat) (l : List Int), k + rs.length ≤ l.length → (∀ r ∈ rs, r.mn ≤ r.mx) → (∃ y ∈ lksM rs k l, sumT y (k + rs.length) = sumT l k + sumMn rs) ∧ ∃ y ∈ lksM rs k l, sumT y (k + rs.length) = sumT l k + sumMx rs
  | [], k, l, _, _ => ⟨⟨l, List.mem_singleton.2 rfl, by simp [sumMn]⟩, ⟨l, List.mem_singleton.2 rfl, by simp [sumMx]⟩⟩
  | r :: rs, k, l, hl, hb => by
    have hr := hb r (List.mem_cons_self ..)
    rw [List.length_cons] at hl
    have e : ∀ n, sumT (l.set k n) (k + 1) = sumT l k + n := fun n => by
      unfold sumT
      rw [set_take n (by omega), List.sum_append]
      simp
    have h1 := (lks_at rs (k + 1) (l.set k r.mn) (by rw [List.length_set]; omega) fun z hz => hb z (List.mem_cons_of_mem _ hz)).1
    have h2 := (lks_at rs (k + 1) (l.set k r.mx) (by rw [List.length_set]; omega) fun z hz => hb z (List.mem_cons_of_mem _ hz)).2
    rw [List.length_cons, show k + (rs.length + 1) = k + 1 + rs.length from by omega]
    obtain ⟨y1, m1, q1⟩ := h1
    obtain ⟨y2, m2, q2⟩ := h2
    rw [e] at q1 q2
    refine ⟨⟨y1, List.mem_flatMap.2 ⟨r.mn, mem_rangeI.2 ⟨Int.le_refl _, by omega⟩, m1⟩, ?_⟩, ⟨y2, List.mem_flatMap.2 ⟨r.mx, mem_rangeI.2 ⟨hr, by omega⟩, m2⟩, ?_⟩⟩
    · rw [q1]; simp only [sumMn, List.map_cons, List.sum_cons]; omega
    · rw [q2]; simp only [sumMx, List.map_cons, List.sum_cons]; omega
theorem span_eq {b : BelP} (B : BelB b) : mnK (sumAt · (iota b.corners.length)) (sumAt ((lksB b).headD []) (iota b.corners.length)) (lksB b) = sumMn b.corners ∧ mxK (sumAt · (iota b.corners.length)) (sumAt ((lksB b).headD []) (iota b.corners.length)) (lksB b) = sumMx b.corners := by
  have B4 := B.c4
  have hne := lksM_ne b.corners 0 zero4 B.cb
  have hs : ∀ y ∈ lksB b, sumAt y (iota b.corners.length) = sumT y b.corners.length := fun y hy => sumAt_iota y _ (by rw [lksM_len4 b.corners 0 zero4 rfl y hy]; exact B4)
  have h1 : ∀ y ∈ lksB b, sumMn b.corners ≤ sumAt y (iota b.corners.length) ∧ sumAt y (iota b.corners.length) ≤ sumMx b.corners := fun y hy => by
    have := lks_sum b.corners 0 zero4 (by rw [Nat.zero_add]; exact B4) y hy
    rw [Nat.zero_add, show sumT zero4 0 = 0 from rfl, Int.zero_add, Int.zero_add] at this
    rw [hs y hy]
    exact this
  obtain ⟨⟨y1, m1, q1⟩, ⟨y2, m2, q2⟩⟩ := lks_at b.corners 0 zero4 (by rw [Nat.zero_add]; exact B4) fun r hr => (B.cb r hr).2.1
  rw [Nat.zero_add, show sumT zero4 0 = 0 from rfl, Int.zero_add] at q1 q2
  have hd : (lksB b).headD [] ∈ lksB b := by
    unfold lksB
    cases e : lksM b.corners 0 zero4 with
    | nil => exact absurd e hne
    | cons x l => exact List.mem_cons_self ..
  refine ⟨Int.le_antisymm ?_ ?_, Int.le_antisymm ?_ ?_⟩
  · have := mnK_mem (sumAt · (iota b.corners.length)) (lksB b) (sumAt ((lksB b).headD []) (iota b.corners.length)) y1 m1
    have e := hs y1 m1
    omega
  · exact mnK_ge _ _ _ _ (h1 _ hd).1 fun y hy => (h1 y hy).1
  · exact mxK_le _ _ _ _ (h1 _ hd).2 fun y hy => (h1 y hy).2
  · have := mxK_mem (sumAt · (iota b.corners.length)) (lksB b) (sumAt ((lksB b).headD []) (iota b.corners.length)) y2 m2
    have e := hs y2 m2
    omega
end Go.Bw
/- Plain: the least and the greatest weather; how many joints are sound. Conditions: as each theorem states. -/
namespace Go.Wx
open Go Go.HL
variable [Lvl]
/-- How many joints have surely failed, and how many may be sound, as the first n say. -/
def mustN (f : Fate) (w : Nat) : Nat → Nat
  | 0 => 0
  | i + 1 => mustN f w i + if uptoM (f.at i) w = 0 then 1 else 0
def canN (f : Fate) (w : Nat) : Nat → Nat
  | 0 => 0
  | i + 1 => canN f w i + if f.at i ≠ uptoM (f.at i) w then 1 else 0
def soundLo (s : Season) (w : Nat) (l : List Fate) : Nat := l.foldl (fun m f => min m (mustN f w s.joints.length)) s.joints.length
def soundHi (s : Season) (w : Nat) (l : List Fate) : Nat := l.foldl (fun m f => max m (canN f w s.joints.length)) 0
theorem foldl_min {α : Type} (g : α → Nat) : ∀ (l : List α) (m z : Nat), z ≤ l.foldl (fun m f => min m (g f)) m ↔ z ≤ m ∧ ∀ f ∈ l, z ≤ g f
  | [], m, z => by simp
  | f :: l, m, z => by
    rw [List.foldl_cons, foldl_min g l]
    simp only [List.mem_cons, forall_eq_or_imp]
    constructor
    · rintro ⟨h1, h2⟩; exact ⟨by omega, by omega, h2⟩
    · rintro ⟨h1, h2, h3⟩; exact ⟨by omega, h3⟩
theorem foldl_max {α : Type} (g : α → Nat) : ∀ (l : List α) (m z : Nat), l.foldl (fun m f => max m (g f)) m ≤ z ↔ m ≤ z ∧ ∀ f ∈ l, g f ≤ z
  | [], m, z => by simp
  | f :: l, m, z => by
    rw [List.foldl_cons, foldl_max g l]
    simp only [List.mem_cons, forall_eq_or_imp]
    constructor
    · rintro ⟨h1, h2⟩; exact ⟨by omega, by omega, h2⟩
    · rintro ⟨h1, h2, h3⟩; exact ⟨by omega, h3⟩
/-- The order of the fates does not matter. -/
theorem soundLo_same {s : Season} {w : Nat} {l l' : List Fate} (h : ∀ f, f ∈ l ↔ f ∈ l') : soundLo s w l = soundLo s w l' := by
  refine Nat.le_antisymm ?_ ?_
  · exact (foldl_min _ _ _ _).2 (by have := (foldl_min (fun f => mustN f w s.joints.length) l s.joints.length (soundLo s w l)).1 (Nat.le_refl _); exact ⟨this.1, fun f hf => this.2 f ((h f).2 hf)⟩)
  · exact (foldl_min _ _ _ _).2 (by have := (foldl_min (fun f => mustN f w s.joints.length) l' s.joints.length (soundLo s w l')).1 (Nat.le_refl _); exact ⟨this.1, fun f hf => this.2 f ((h f).1 hf)⟩)
theorem soundHi_same {s : Season} {w : Nat} {l l' : List Fate} (h : ∀ f, f ∈ l ↔ f ∈ l') : soundHi s w l = soundHi s w l' := by
  refine Nat.le_antisymm ?_ ?_
  · exact (foldl_max _ _ _ _).2 (by have := (foldl_max (fun f => canN f w s.joints.length) l' 0 (soundHi s w l')).1 (Nat.le_refl _); exact ⟨this.1, fun f hf => this.2 f ((h f).1 hf)⟩)
  · exact (foldl_max _ _ _ _).2 (by have := (foldl_max (fun f => canN f w s.joints.length) l 0 (soundHi s w l)).1 (Nat.le_refl _); exact ⟨this.1, fun f hf => this.2 f ((h f).2 hf)⟩)
def soundE (s : Season) (w : Int) : Int := knownM s [isWeekM s w]
def soundV (s : Season) (w : Int) : Rg := if soundE s w = 0 then ⟨soundLo s w.toNat (allFates s), soundHi s w.toNat (allFates s)⟩ else ⟨0, 0⟩
theorem mustN_le (f : Fate) (w : Nat) : ∀ n, mustN f w n ≤ n
  | 0 => Nat.le_refl _
  | n + 1 => by have := mustN_le f w n; rw [mustN]; split <;> omega
theorem canN_le (f : Fate) (w : Nat) : ∀ n, canN f w n ≤ n
  | 0 => Nat.le_refl _
  | n + 1 => by have := canN_le f w n; rw [canN]; split <;> omega
end Go.Wx
/- Plain: all reports left out. Conditions: as each theorem states. -/
namespace Go.Wx
open Go Go.HL
variable [Lvl]
theorem CheckS.reports {s : Season} (c : CheckS s) {rs : List Seen} (h5 : rs.length ≤ 5) (h : ∀ r ∈ rs, checkSeenM s r = 0) : CheckS { s with reports := rs } :=
  ⟨c.w1, c.w6, c.dl, c.h, c.d, c.j3, c.j, h5, fun r hr => checkSeen_iff.2 (checkSeen_iff.1 (h r hr))⟩
end Go.Wx
/- Plain: what truly was so is never denied. Conditions: as each theorem states. -/
namespace Go.Wx
open Go Go.HL
variable [Lvl]
theorem mem_le_last {m : Nat} {z : Int} (h : z ∈ listM m) : z ≤ (listM m).getLastD 0 := by
  obtain ⟨i, rfl, hi, hb⟩ := listN_mem h
  have h1 := last_le (m := m) (m' := 2 ^ i) (fun w' hw' hb' => by
    rw [Nat.testBit_two_pow] at hb'
    have : i = w' := by simpa using hb'
    subst this
    exact ⟨i, Nat.le_refl _, hi, hb⟩)
  have h2 : listM (2 ^ i) ≠ [] := List.ne_nil_of_mem (mem_listN.2 ⟨i, rfl, hi, by rw [Nat.testBit_two_pow]; simp⟩)
  have h3 := h1 h2
  have h4 : (listM (2 ^ i)).getLastD 0 = (i : Int) := by
    have hl : (listM (2 ^ i)).getLastD 0 ∈ listM (2 ^ i) := by
      rw [List.getLastD_eq_getLast?, List.getLast?_eq_some_getLast h2]
      exact List.getLast_mem h2
    obtain ⟨k, e, _, hk⟩ := listN_mem hl
    rw [Nat.testBit_two_pow] at hk
    have : i = k := by simpa using hk
    rw [e, this]
  omega
theorem head_le_mem {m : Nat} {z : Int} (h : z ∈ listM m) : (listM m).headD 0 ≤ z := by
  have hp : (listM m).Pairwise (· < ·) := listN_pair m 7
  cases e : listM m with
  | nil => rw [e] at h; cases h
  | cons y l =>
    rw [e] at h hp
    rw [List.headD_cons]
    rcases List.mem_cons.1 h with rfl | h
    · exact Int.le_refl _
    · have := (List.pairwise_cons.1 hp).1 _ h; omega
section
variable {weeks joints reports : Nat} {s : Season} {ht dt fs : List Int} (T : SeasonT weeks joints reports s ht dt fs) (hw : weeks ≤ 6) (h3 : joints ≤ 3)
include T hw h3
end
end Go.Wx
/- Plain: a season that is known better. Conditions: as each theorem states. -/
namespace Go.Wx
open Go Go.HL
variable [Lvl]
/-- What is known of a season is known better. -/
structure Better (x s : Season) : Prop where
  js : x.joints = s.joints
  hl : x.heats.length = s.heats.length
  dl : x.damps.length = s.damps.length
  hs : ∀ (i : Nat) q r, x.heats[i]? = some q → s.heats[i]? = some r → r.mn ≤ q.mn ∧ q.mx ≤ r.mx
  ds : ∀ (i : Nat) q r, x.damps[i]? = some q → s.damps[i]? = some r → r.mn ≤ q.mn ∧ q.mx ≤ r.mx
  rs : ∀ r ∈ s.reports, r ∈ x.reports
section
variable {x s : Season} (B : Better x s) (cx : CheckS x) (cs : CheckS s)
include B cx cs
theorem Better.sky {n : Int} {y : Sky} (h : y ∈ allSkies x n) : y ∈ allSkies s n := by
  have l1 : (weatherM x n).length = s.heats.length := by
    unfold weatherM
    split
    · exact B.hl
    · rw [cx.dl]; exact B.hl
  have l2 : (weatherM s n).length = s.heats.length := by
    unfold weatherM
    split
    · rfl
    · exact cs.dl
  have h6 := cs.w6
  rw [mem_allSkies (by omega)] at h ⊢
  rw [l1] at h
  rw [l2]
  refine ⟨fun i r hr => ?_, h.2⟩
  have hi := (List.getElem?_eq_some_iff.1 hr).1
  have hq : (weatherM x n)[i]? = some ((weatherM x n)[i]'(by omega)) := List.getElem?_eq_getElem (by omega)
  have h1 := h.1 i _ hq
  have h2 : r.mn ≤ ((weatherM x n)[i]'(by omega)).mn ∧ ((weatherM x n)[i]'(by omega)).mx ≤ r.mx := by
    generalize hz : (weatherM x n)[i]'(by omega) = z at hq
    unfold weatherM at hr hq
    by_cases hn : n = 1
    · rw [if_pos hn] at hr hq; exact B.hs i _ r hq hr
    · rw [if_neg hn] at hr hq; exact B.ds i _ r hq hr
  omega
theorem Better.told {i w : Nat} (h : (toldW x i).testBit w = true) : (toldW s i).testBit w = true := by
  by_cases hw : w < 64
  · rw [toldW_bit x cx.w6 (fun r hr => (checkSeen_iff.1 (cx.r r hr)).2.2.1) i w hw, Bool.and_eq_true, List.all_eq_true] at h
    rw [toldW_bit s cs.w6 (fun r hr => (checkSeen_iff.1 (cs.r r hr)).2.2.1) i w hw, Bool.and_eq_true, List.all_eq_true, ← B.hl]
    exact ⟨h.1, fun r hr => h.2 r (B.rs r hr)⟩
  · have h2 : toldW x i < 2 ^ w := Nat.lt_of_lt_of_le (toldW_lt x cx.w6 i) (Nat.pow_le_pow_right (by omega) (by omega))
    rw [Nat.testBit_lt_two_pow h2] at h
    cases h
theorem Better.surv {n : Int} {y : Sky} {i : Nat} {z : Fl} (h : z ∈ Wx.surv x n y i) : z ∈ Wx.surv s n y i := by
  unfold Wx.surv at h ⊢
  rw [B.js] at h
  cases hj : s.joints[i]? with
  | none => rw [hj] at h; cases h
  | some j =>
    rw [hj] at h
    simp only at h ⊢
    split at h
    · rename_i hk
      rw [if_pos hk]
      rw [List.mem_filter] at h ⊢
      rw [B.hl] at h
      exact ⟨h.1, B.told cx cs h.2⟩
    · cases h
theorem Better.ok {n : Int} {y : Sky} (h : okM x n y = true) : okM s n y = true := by
  rw [okM_iff] at h ⊢
  intro i j hj hk e
  have h1 := h i j (by rw [B.js]; exact hj) hk
  cases hs : Wx.surv x n y i with
  | nil => exact h1 hs
  | cons z l =>
    have := B.surv cx cs (n := n) (y := y) (i := i) (z := z) (by rw [hs]; exact List.mem_cons_self ..)
    rw [e] at this
    cases this
theorem Better.fls {n : Int} {i : Nat} {z : Fl} (h : z ∈ flsM x n i) : z ∈ flsM s n i := by
  obtain ⟨y, h1, h2, h3⟩ := mem_flsM.1 h
  exact mem_flsM.2 ⟨y, B.sky cx cs h1, B.ok cx cs h2, B.surv cx cs h3⟩
theorem Better.kind (i : Nat) : kindAt x i = kindAt s i := by unfold kindAt; rw [B.js]
theorem Better.fails {i w : Nat} (h : (failsM x i).testBit w = true) : (failsM s i).testBit w = true := by
  unfold failsM at h ⊢
  rw [maskM_bit] at h ⊢
  rw [B.kind cx cs] at h
  obtain ⟨y, hy, e⟩ := h
  exact ⟨y, B.fls cx cs hy, e⟩
theorem Better.fate {n : Int} {y : Sky} {i w : Nat} (h : (fateM x n y i).testBit w = true) : (fateM s n y i).testBit w = true := by
  unfold fateM at h ⊢
  rw [maskM_bit] at h ⊢
  obtain ⟨z, hz, e⟩ := h
  exact ⟨z, B.surv cx cs hz, e⟩
/-- Each fate of the season that is known better lies within one of the other. -/
theorem Better.fates {F' : Fate} (h : F' ∈ allFates x) : ∃ F, F ∈ allFates s ∧ ∀ i, i < 3 → ∀ w, (F'.at i).testBit w = true → (F.at i).testBit w = true := by
  obtain ⟨a, ha, b, hb, rfl⟩ := mem_allFates.1 h
  obtain ⟨u, hu⟩ := List.mem_map.1 ha
  obtain ⟨v, hv⟩ := List.mem_map.1 hb
  obtain ⟨hu1, rfl⟩ := hu
  obtain ⟨hv1, rfl⟩ := hv
  obtain ⟨u1, u2⟩ := mem_okAll.1 hu1
  obtain ⟨v1, v2⟩ := mem_okAll.1 hv1
  refine ⟨joinF (fateOf s 1 u) (fateOf s 2 v), mem_allFates.2 ⟨_, List.mem_map.2 ⟨u, mem_okAll.2 ⟨B.sky cx cs u1, B.ok cx cs u2⟩, rfl⟩, _, List.mem_map.2 ⟨v, mem_okAll.2 ⟨B.sky cx cs v1, B.ok cx cs v2⟩, rfl⟩, rfl⟩, fun i hi w hb => ?_⟩
  rw [joinF_at, Fate.of_at _ _ _ _ hi, Fate.of_at _ _ _ _ hi, Nat.testBit_or, Bool.or_eq_true] at hb ⊢
  exact hb.imp (B.fate cx cs) (B.fate cx cs)
end
theorem sub_upto {m m' w : Nat} (h : ∀ i, m'.testBit i = true → m.testBit i = true) (h0 : uptoM m w = 0) : uptoM m' w = 0 := by
  apply Nat.eq_of_testBit_eq
  intro i
  rw [Nat.zero_testBit]
  cases hb : (uptoM m' w).testBit i with
  | false => rfl
  | true =>
    rw [uptoM_bit, Bool.and_eq_true] at hb
    have : (uptoM m w).testBit i = true := by rw [uptoM_bit, h i hb.1, hb.2]; rfl
    rw [h0, Nat.zero_testBit] at this
    cases this
theorem sub_rest {m m' w : Nat} (h : ∀ i, m'.testBit i = true → m.testBit i = true) (h0 : m = uptoM m w) : m' = uptoM m' w := by
  apply Nat.eq_of_testBit_eq
  intro i
  rw [uptoM_bit]
  cases hb : m'.testBit i with
  | false => rfl
  | true =>
    have h1 := h i hb
    rw [h0, uptoM_bit, Bool.and_eq_true] at h1
    rw [h1.2]
    rfl
theorem list_sub {m m' : Nat} (h : ∀ i, m'.testBit i = true → m.testBit i = true) {z : Int} (hz : z ∈ listM m') : z ∈ listM m := by
  obtain ⟨i, rfl, hi, hb⟩ := listN_mem hz
  exact mem_listN.2 ⟨i, rfl, hi, h i hb⟩
section
variable {x s : Season} (B : Better x s) (cx : CheckS x) (cs : CheckS s)
include B cx cs
theorem Better.first (hx : mayM x = true) {j : Nat} : ((allFates x).any (isF x j) = true → (allFates s).any (isF s j) = true) ∧ ((allFates x).any (noF x j) = true → (allFates s).any (noF s j) = true) := by
  have hjl : x.joints.length = s.joints.length := by rw [B.js]
  have j3 := cs.j3
  have SV := checkM_zero cx.ok
  have ends : ∀ (F' F : Fate), F' ∈ allFates x → (∀ i, i < 3 → ∀ w, (F'.at i).testBit w = true → (F.at i).testBit w = true) → ∀ n, n ≤ s.joints.length → latP x F' j n ≤ latP s F j n ∧ soonP s F j n ≤ soonP x F' j n := by
    intro F' F hF' hsub n
    induction n with
    | zero => intro _; rw [latP, latP, soonP, soonP, B.hl]; exact ⟨Int.le_refl _, Int.le_refl _⟩
    | succ n ih =>
      intro hn
      obtain ⟨h1, h2⟩ := ih (by omega)
      have hne : listM (F'.at n) ≠ [] := listM_ne (allFates_ne SV hF' (by omega)) ((allFates_b cx.w6 hF').at n)
      have hs := hsub n (by omega)
      have e1 : (listM (F'.at n)).getLastD 0 ∈ listM (F'.at n) := by rw [List.getLastD_eq_getLast?, List.getLast?_eq_some_getLast hne]; exact List.getLast_mem hne
      have e2 : (listM (F'.at n)).headD 0 ∈ listM (F'.at n) := by cases e : listM (F'.at n) with | nil => exact absurd e hne | cons a l => exact List.mem_cons_self ..
      have g1 := mem_le_last (list_sub hs e1)
      have g2 := head_le_mem (list_sub hs e2)
      rw [latP, latP, soonP, soonP]
      split
      · exact ⟨h1, h2⟩
      · omega
  constructor
  · intro h
    obtain ⟨F', hF', h⟩ := List.any_eq_true.1 h
    obtain ⟨F, hF, hsub⟩ := B.fates cx cs hF'
    refine List.any_eq_true.2 ⟨F, hF, ?_⟩
    unfold isF at h ⊢
    obtain ⟨w, hw, h⟩ := List.any_eq_true.1 h
    by_cases hj : j < 3
    · refine List.any_eq_true.2 ⟨w, list_sub (hsub j hj) hw, ?_⟩
      unfold isW at h ⊢
      rw [Bool.and_eq_true, decide_eq_true_eq, decide_eq_true_eq] at h ⊢
      have := (ends F' F hF' hsub s.joints.length (Nat.le_refl _)).1
      rw [hjl, B.hl] at h
      omega
    · have h2 : F'.at j = F'.at 2 ∧ F.at j = F.at 2 := by
        match j, hj with
        | j + 3, _ => exact ⟨rfl, rfl⟩
        | 0, h => exact absurd (by omega) h
        | 1, h => exact absurd (by omega) h
        | 2, h => exact absurd (by omega) h
      rw [h2.1] at hw
      rw [h2.2]
      refine List.any_eq_true.2 ⟨w, list_sub (hsub 2 (by omega)) hw, ?_⟩
      unfold isW at h ⊢
      rw [Bool.and_eq_true, decide_eq_true_eq, decide_eq_true_eq] at h ⊢
      have := (ends F' F hF' hsub s.joints.length (Nat.le_refl _)).1
      rw [hjl, B.hl] at h
      omega
  · intro h
    obtain ⟨F', hF', h⟩ := List.any_eq_true.1 h
    obtain ⟨F, hF, hsub⟩ := B.fates cx cs hF'
    refine List.any_eq_true.2 ⟨F, hF, ?_⟩
    unfold noF at h ⊢
    obtain ⟨w, hw, h⟩ := List.any_eq_true.1 h
    have hmem : w ∈ listM (F.at j) := by
      by_cases hj : j < 3
      · exact list_sub (hsub j hj) hw
      · have h2 : F'.at j = F'.at 2 ∧ F.at j = F.at 2 := by
          match j, hj with
          | j + 3, _ => exact ⟨rfl, rfl⟩
          | 0, h => exact absurd (by omega) h
          | 1, h => exact absurd (by omega) h
          | 2, h => exact absurd (by omega) h
        rw [h2.1] at hw
        rw [h2.2]
        exact list_sub (hsub 2 (by omega)) hw
    refine List.any_eq_true.2 ⟨w, hmem, ?_⟩
    unfold noW at h ⊢
    rw [Bool.or_eq_true, decide_eq_true_eq, decide_eq_true_eq] at h ⊢
    have := (ends F' F hF' hsub s.joints.length (Nat.le_refl _)).2
    rw [hjl, B.hl] at h
    omega
end
end Go.Wx
/- Joints that leak: what the verdicts say of how many are sound. Conditions: as each theorem states. -/
namespace Go.Wx
open Go Go.HL Go.Bw
variable [Lvl]
theorem fate_fls {s : Season} {n : Int} {y : Sky} {i w : Nat} (hy : y ∈ allSkies s n) (ho : okM s n y = true) (h : (fateM s n y i).testBit w = true) : (failsM s i).testBit w = true := by
  unfold fateM at h
  obtain ⟨z, hz, e⟩ := (maskM_bit w _).1 h
  have hk : kindAt s i = n := by
    unfold surv at hz
    unfold kindAt
    cases hj : s.joints[i]? with
    | none => rw [hj] at hz; cases hz
    | some j =>
      rw [hj] at hz
      simp only at hz
      split at hz
      · rename_i hk; simp [hk]
      · cases hz
  unfold failsM
  rw [hk]
  refine (maskM_bit w _).2 ⟨z, ?_, e⟩
  refine List.mem_flatMap.2 ⟨y, List.mem_filter.2 ⟨?_, ho⟩, hz⟩
  rw [List.take_length]
  exact hy
theorem fates_fls {s : Season} {F : Fate} (hF : F ∈ allFates s) {i w : Nat} (hi : i < 3) (h : (F.at i).testBit w = true) : (failsM s i).testBit w = true := by
  obtain ⟨x, hx, y, hy, rfl⟩ := mem_allFates.1 hF
  obtain ⟨a, a1, a2, rfl⟩ := mem_fatesM.1 hx
  obtain ⟨b, b1, b2, rfl⟩ := mem_fatesM.1 hy
  rw [joinF_at, Fate.of_at _ _ _ _ hi, Fate.of_at _ _ _ _ hi, Nat.testBit_or, Bool.or_eq_true] at h
  rcases h with h | h
  · exact fate_fls a1 a2 h
  · exact fate_fls b1 b2 h
/-- What leaks at a joint, as its verdict tells. -/
def cornR (s : Season) (w i : Nat) : Rg := ⟨if failedM s i w = 1 then 1 else 0, if failedM s i w = 2 then 0 else 1⟩
def cornS (s : Season) (w n : Nat) : List Rg := (List.range n).map (cornR s w)
theorem cornS_len (s : Season) (w n : Nat) : (cornS s w n).length = n := by unfold cornS; simp
theorem cornS_succ (s : Season) (w n : Nat) : cornS s w (n + 1) = cornS s w n ++ [cornR s w n] := by unfold cornS; rw [List.range_succ, List.map_append]; rfl
theorem sumMn_snoc (l : List Rg) (r : Rg) : sumMn (l ++ [r]) = sumMn l + r.mn := by unfold sumMn; rw [List.map_append, List.sum_append]; simp
theorem sumMx_snoc (l : List Rg) (r : Rg) : sumMx (l ++ [r]) = sumMx l + r.mx := by unfold sumMx; rw [List.map_append, List.sum_append]; simp
theorem corn_b (s : Season) (w i : Nat) : 0 ≤ (cornR s w i).mn ∧ (cornR s w i).mn ≤ (cornR s w i).mx ∧ (cornR s w i).mx ≤ 1 := by
  unfold cornR
  dsimp only
  split <;> split <;> omega
theorem corn_sum (s : Season) (w : Nat) : ∀ n, 0 ≤ sumMn (cornS s w n) ∧ sumMn (cornS s w n) ≤ sumMx (cornS s w n) ∧ sumMx (cornS s w n) ≤ n
  | 0 => by simp [cornS, sumMn, sumMx]
  | n + 1 => by
    have ih := corn_sum s w n
    have h := corn_b s w n
    rw [cornS_succ, sumMn_snoc, sumMx_snoc]
    push_cast
    omega
theorem failed_one {s : Season} {i w : Nat} : failedM s i w = 1 ↔ failsM s i = uptoM (failsM s i) w := by
  unfold failedM verdictM
  by_cases h : failsM s i = uptoM (failsM s i) w
  · rw [if_pos (by rw [decide_eq_false (fun hn => hn h)]; rfl)]
    exact ⟨fun _ => h, fun _ => rfl⟩
  · rw [if_neg (by rw [decide_eq_true h]; decide)]
    refine ⟨fun e => ?_, fun e => absurd e h⟩
    split at e <;> cases e
theorem failed_two {s : Season} {i w : Nat} (h0 : failsM s i ≠ 0) : failedM s i w = 2 ↔ uptoM (failsM s i) w = 0 := by
  unfold failedM verdictM
  by_cases h : failsM s i = uptoM (failsM s i) w
  · rw [if_pos (by rw [decide_eq_false (fun hn => hn h)]; rfl)]
    exact ⟨fun e => (by cases e), fun e => absurd (h.trans e) h0⟩
  · rw [if_neg (by rw [decide_eq_true h]; decide)]
    by_cases h2 : uptoM (failsM s i) w = 0
    · rw [if_pos (by rw [decide_eq_false (fun hn => hn h2)]; rfl)]
      exact ⟨fun _ => h2, fun _ => rfl⟩
    · rw [if_neg (by rw [decide_eq_true h2]; decide)]
      exact ⟨fun e => (by cases e), fun e => absurd e h2⟩
/-- At least those that never have failed are sound, and none that always has. -/
theorem must_can {s : Season} {F : Fate} (hF : F ∈ allFates s) (h0 : ∀ i, i < s.joints.length → failsM s i ≠ 0) (w : Nat) : ∀ n, n ≤ s.joints.length → n ≤ 3 → (n : Int) - sumMx (cornS s w n) ≤ mustN F w n ∧ (canN F w n : Int) ≤ n - sumMn (cornS s w n)
  | 0, _, _ => by simp [cornS, sumMn, sumMx, mustN, canN]
  | n + 1, hn, h3 => by
    have ih := must_can hF h0 w n (by omega) (by omega)
    have sub : ∀ v, (F.at n).testBit v = true → (failsM s n).testBit v = true := fun v hv => fates_fls hF (by omega) hv
    rw [cornS_succ, sumMn_snoc, sumMx_snoc, mustN, canN]
    have hm : (cornR s w n).mx = (if failedM s n w = 2 then 0 else 1) := rfl
    have hl : (cornR s w n).mn = (if failedM s n w = 1 then 1 else 0) := rfl
    rw [hm, hl]
    have q1 : failedM s n w = 2 → uptoM (F.at n) w = 0 := fun e => sub_upto sub ((failed_two (h0 n (by omega))).1 e)
    have q2 : failedM s n w = 1 → F.at n = uptoM (F.at n) w := fun e => sub_rest sub (failed_one.1 e)
    push_cast
    constructor
    · by_cases e : failedM s n w = 2
      · rw [if_pos e, if_pos (q1 e)]; omega
      · rw [if_neg e]; split <;> omega
    · by_cases e : failedM s n w = 1
      · rw [if_pos e, if_neg (fun hn => hn (q2 e))]; omega
      · rw [if_neg e]; split <;> omega
theorem sound_corn {s : Season} (h0 : ∀ i, i < s.joints.length → failsM s i ≠ 0) (h3 : s.joints.length ≤ 3) (w : Nat) :
    (s.joints.length : Int) - sumMx (cornS s w s.joints.length) ≤ soundLo s w (allFates s) ∧ (soundHi s w (allFates s) : Int) ≤ s.joints.length - sumMn (cornS s w s.joints.length) := by
  have hs := corn_sum s w s.joints.length
  constructor
  · obtain ⟨z, hz⟩ : ∃ z : Nat, (s.joints.length : Int) - sumMx (cornS s w s.joints.length) = z := ⟨((s.joints.length : Int) - sumMx (cornS s w s.joints.length)).toNat, by omega⟩
    have := (foldl_min (fun f => mustN f w s.joints.length) (allFates s) s.joints.length z).2 ⟨by omega, fun F hF => by have := (must_can hF h0 w s.joints.length (Nat.le_refl _) h3).1; omega⟩
    rw [hz]
    exact Int.ofNat_le.2 this
  · obtain ⟨z, hz⟩ : ∃ z : Nat, (s.joints.length : Int) - sumMn (cornS s w s.joints.length) = z := ⟨((s.joints.length : Int) - sumMn (cornS s w s.joints.length)).toNat, by omega⟩
    have := (foldl_max (fun f => canN f w s.joints.length) (allFates s) 0 z).2 ⟨by omega, fun F hF => by have := (must_can hF h0 w s.joints.length (Nat.le_refl _) h3).2; omega⟩
    rw [hz]
    exact Int.ofNat_le.2 this
/-- What is known better leaks no less known. -/
theorem corn_better {x s : Season} (sub : ∀ i v, (failsM x i).testBit v = true → (failsM s i).testBit v = true) (w : Nat) : ∀ n, (∀ i, i < n → failsM x i ≠ 0) → (∀ i, i < n → failsM s i ≠ 0) → sumMn (cornS s w n) ≤ sumMn (cornS x w n) ∧ sumMx (cornS x w n) ≤ sumMx (cornS s w n)
  | 0, _, _ => by simp [cornS]
  | n + 1, hx, hs => by
    have ih := corn_better sub w n (fun i hi => hx i (by omega)) (fun i hi => hs i (by omega))
    rw [cornS_succ, cornS_succ, sumMn_snoc, sumMx_snoc, sumMn_snoc, sumMx_snoc]
    have q1 : failedM s n w = 2 → failedM x n w = 2 := fun e => (failed_two (hx n (by omega))).2 (sub_upto (sub n) ((failed_two (hs n (by omega))).1 e))
    have q2 : failedM s n w = 1 → failedM x n w = 1 := fun e => failed_one.2 (sub_rest (sub n) (failed_one.1 e))
    unfold cornR
    dsimp only
    constructor
    · by_cases e : failedM s n w = 1
      · rw [if_pos e, if_pos (q2 e)]; omega
      · rw [if_neg e]; split <;> omega
    · by_cases e : failedM s n w = 2
      · rw [if_pos e, if_pos (q1 e)]; omega
      · rw [if_neg e]; split <;> omega
end Go.Wx
/- Walks: the weather that there can be. Conditions: as each theorem states. -/
namespace Go.Proofs.Ytledjpdpkbifgaa
open Go Go.HL Go.Proofs Go.Wx
variable [Lvl]
set_option maxRecDepth 100000
end Go.Proofs.Ytledjpdpkbifgaa
/- Walks: how many joints are sound. Conditions: as each theorem states. -/
namespace Go.Proofs.Ytledjpdpkbifgaa
open Go Go.HL Go.Proofs Go.Wx
variable [Lvl]
set_option maxRecDepth 100000
/-- What holds between the rounds. -/
def SoundI (s : Season) (w : Nat) (pre : Pv) (b8 l : Nat) (r : Loop) (h0 : AH) (done : List Fate) (h : AH) (M : Pv) : Prop :=
  Ext h0 h ∧ M = pre ++ [some (b8, .cells #[.int .i64 (soundLo s w done : Nat), .int .i64 (soundHi s w done : Nat)] 36 (0, 0)), some (l, obL r .ready none)]
theorem minN (a b : Nat) : ((min a b : Nat) : Int) = min (a : Int) (b : Int) := by omega
theorem maxN (a b : Nat) : ((max a b : Nat) : Int) = max (a : Int) (b : Int) := by omega
set_option maxHeartbeats 4000000 in
theorem Sound_ok (s : Season) (Sm : Small s) (week : Int) (A0 A1 A2 A3 : Option Addr) (c0 c1 c2 c3 : Nat) (h : AH) (R : SeasonR h A0 A1 A2 A3 s) :
    FnT Try.prog 9 #[seasonV A0 A1 A2 A3 c0 c1 c2 c3 s, .int .i64 week] h (fun v h' => v = .tuple #[rgV (soundV s week), .int .i64 (soundE s week)]) := by
  by_cases he : soundE s week = 0
  · have hk := knownM_zero he
    have SV := checkM_zero hk.1
    have hw6 := SV.b.w6
    have hj3 := SV.b.j3
    obtain ⟨w, rfl, hw⟩ := isWeekM_zero (s := s) (w := week) (firstErr_zero (f := id) hk.2.1 (isWeekM s week) (by simp))
    refine call_body Try.func9 rfl Try.ntmps9 rfl ?_
    refine xp_seq ?_
    refine xp_region rfl ?_
    refine op_box (v := .agg #[.slice _ _ _, .slice _ _ _, .slice _ _ _, .slice _ _ _]) (cs := [_, _, _, _]) rfl rfl fun b2 hb2 => ?_
    refine wp_norm [_] rfl ?_
    refine op_box (v := .int .i64 _) (cs := [_]) rfl rfl fun b3 hb3 => ?_
    refine wp_norm [_, _] rfl ?_
    refine op_alloc (cs := [_, _]) rfl rfl fun b4 hb4 => ?_
    refine wp_norm [_, _, _] rfl ?_
    refine op_pure (pv_assign (v := .int .i64 _) rfl) ?_
    refine xp_seq ?_
    refine xp_dw [] rfl rfl rfl ?_
    refine dw_load (i := 0) rfl (by decide +kernel) ?_
    refine op_loadPA 0 (vs := [.slice _ _ _, .slice _ _ _, .slice _ _ _, .slice _ _ _]) rfl rfl rfl rfl rfl ?_
    refine dw_load (i := 1) rfl (by decide +kernel) ?_
    refine op_loadPA 0 (vs := [.slice _ _ _, .slice _ _ _, .slice _ _ _, .slice _ _ _]) rfl rfl rfl rfl rfl ?_
    refine dw_load (i := 2) rfl (by decide +kernel) ?_
    refine op_loadP 1 (v := .int .i64 _) rfl rfl rfl rfl ?_
    refine dw_eff (i := 3) rfl (by decide +kernel) ?_
    refine op_fn (caps := []) (vs := [.agg #[.slice _ _ _, .slice _ _ _, .slice _ _ _, .slice _ _ _], .int .i64 _]) rfl rfl rfl (isWeek_ok s w A0 A1 A2 A3 c0 c1 c2 c3 Sm.h0 h) ?_
    rintro _ h1 E1 ⟨fn, caps, rfl, ak⟩
    refine ⟨ext_wlm E1 _, ?_⟩
    refine dw_eff (i := 4) rfl (by decide +kernel) ?_
    refine op_buildSlice (zc := [_]) (vs := [(0, _)]) (cs := [_]) rfl rfl rfl rfl rfl rfl rfl fun b18 hb18 => ?_
    refine ⟨ext_new hb18 _, ?_⟩
    refine dw_norm [_, _, _, _] rfl ?_
    refine dw_pub 3 rfl ?_
    intro h2 E2 p18
    refine dw_norm [_, _, _, _] rfl ?_
    refine dw_last (i := 5) rfl (by decide +kernel) (by decide +kernel) ?_
    refine op_fn (caps := []) (vs := [.agg #[.slice _ _ _, .slice _ _ _, .slice _ _ _, .slice _ _ _], .slice _ _ _]) rfl rfl rfl (known_yes s A0 A1 A2 A3 c0 c1 c2 c3 h2 (R.ext (Ext.trans E1 E2)) Sm.h0 Sm.h1 Sm.h2 Sm.h3 [_] [_] _ _ (rowFn p18) rfl (by simp) (ask1 (ak.ext E2)) he) ?_
    rintro _ h3 E3 ⟨A, c, mf, fm, fl, A', c', mf', fm', fl', rfl, X, X'⟩
    refine dw_pure (i := 6) rfl (by decide +kernel) (pv_move (v := .tuple #[.agg #[.slice _ _ _, .map _, .map _, .map _, .map _, .slice _ _ _, .map _, .map _, .map _, .map _], .int .i64 _]) rfl) ?_
    refine dw_pure (i := 7) rfl (by decide +kernel) (pv_of (v := .agg #[.slice _ _ _, .map _, .map _, .map _, .map _, .slice _ _ _, .map _, .map _, .map _, .map _]) rfl) ?_
    refine dw_pure (i := 8) rfl (by decide +kernel) (pv_of (v := .int .i64 _) rfl) ?_
    refine dw_eff (i := 9) rfl (by decide +kernel) ?_
    refine op_alloc (cs := [_, _, _, _, _, _, _, _, _, _]) rfl rfl fun b6 hb6 => ?_
    refine ⟨ext_new hb6 _, ?_⟩
    refine dw_norm [_, _, _, _, _] rfl ?_
    refine dw_last (i := 10) rfl (by decide +kernel) (by decide +kernel) ?_
    refine op_storeP 4 (v := .agg #[.slice _ _ _, .map _, .map _, .map _, .map _, .slice _ _ _, .map _, .map _, .map _, .map _]) (vs := [_, _, _, _, _, _, _, _, _, _]) (c' := [_, _, _, _, _, _, _, _, _, _]) rfl rfl rfl rfl rfl rfl rfl rfl rfl ?_
    refine dw_norm [_, _, _, _, _] rfl ?_
    refine dw_pure (i := 11) rfl (by decide +kernel) (pv_assign (v := .int .i64 _) rfl) ?_
    refine dw_end rfl ?_
    refine xp_seq ?_
    refine xp_seq ?_
    refine xp_region rfl ?_
    refine op_pure (pv_move (v := .int .i64 _) rfl) ?_
    refine op_pure (pv_of (v := .bool _) rfl) ?_
    refine xp_condF rfl (by decide) ?_
    refine xp_skip ?_
    refine xp_seq ?_
    refine xp_region rfl ?_
    refine op_pure (pv_fieldAddr rfl rfl rfl rfl 2 rfl) ?_
    refine op_loadP 0 (v := .slice _ _ _) rfl rfl rfl rfl ?_
    refine op_pure (pv_len rfl rfl) ?_
    refine op_pure (pv_build (zc := [_, _]) (vs := [(0, .int .i64 _), (1, .int .i64 _)]) (cs := [_, _]) rfl rfl rfl rfl rfl rfl) ?_
    refine op_alloc (cs := [_, _]) rfl rfl fun b8 hb8 => ?_
    refine wp_norm [_, _, _, _, _, _] rfl ?_
    refine op_storeP 5 (v := .agg #[.int .i64 _, .int .i64 _]) (vs := [_, _]) (c' := [_, _]) rfl rfl rfl rfl rfl rfl rfl rfl rfl ?_
    refine wp_norm [_, _, _, _, _, _] rfl ?_
    refine xp_seq ?_
    refine xp_seq ?_
    refine xp_region rfl ?_
    refine op_loadPA 4 (vs := [.slice _ _ _, .map _, .map _, .map _, .map _, .slice _ _ _, .map _, .map _, .map _, .map _]) rfl rfl rfl rfl rfl ?_
    refine op_fn (caps := []) (vs := [.agg #[.slice _ _ _, .map _, .map _, .map _, .map _, .slice _ _ _, .map _, .map _, .map _, .map _]]) rfl rfl rfl (fates_ok s SV A c mf fm fl A' c' mf' fm' fl' h3 (X.ext (Ext.refl _)) (X'.ext (Ext.refl _))) ?_
    rintro y h4 E4 It
    refine xp_block ?_
    refine xp_rangeFunc rfl ?_
    intro r l lp htm hpr has hbd V0
    refine CallV.mono (It (.yield l) #[] #[] (SoundI s w [_, _, _, _, _] b8 l lp h4) (fun k h1 h2 M E I => ⟨I.1.trans E, I.2⟩) ?_ h4 _ (Ext.refl _) ⟨Ext.refl _, rfl⟩ V0) ?_ (fun _ _ y => y)
    · intro done f hc M hf I
      obtain ⟨E0, rfl⟩ := I
      have fb := allFates_b hw6 hf
      intro V
      refine callV_yield (wl_get V (i := 6) rfl) hpr rfl htm has hbd ?_
      refine round_enter (i := 6) (r := lp) ?_ V
      refine goes_norm [_, _, _, _, _, _, _] rfl ?_
      refine xp_region rfl ?_
      refine op_alloc (cs := [_, _, _]) rfl rfl fun b9 hb9 => ?_
      refine wp_norm [_, _, _, _, _, _, _, _] rfl ?_
      refine op_storeP 7 (v := .agg #[.int .u64 _, .int .u64 _, .int .u64 _]) (vs := [_, _, _]) (c' := [_, _, _]) rfl rfl rfl rfl rfl rfl rfl rfl rfl ?_
      refine wp_norm [_, _, _, _, _, _, _, _] rfl ?_
      refine ⟨rfl, none, rfl, ?_⟩
      refine goes_norm [_, _, _, _, _, _, _, _] rfl ?_
      refine xp_block ?_
      refine xp_seq ?_
      refine xp_region rfl ?_
      refine op_pure (pv_assign (v := .int .i64 _) rfl) ?_
      refine op_pure (pv_assign (v := .int .i64 _) rfl) ?_
      refine xp_seq ?_
      refine xp_seq ?_
      refine xp_region rfl ?_
      refine op_pure (pv_fieldAddr rfl rfl rfl rfl 2 rfl) ?_
      refine op_loadP 0 (v := .slice _ _ _) rfl rfl rfl rfl ?_
      refine op_pure (pv_len rfl rfl) ?_
      refine op_pure (pv_move (v := .int .i64 _) rfl) ?_
      refine xp_block ?_
      refine xp_loopB [10, 11, 12, 36, 37, 38, 39, 40, 41, 42, 43, 44, 45, 46, 47, 48, 49, 50, 51, 52, 53, 54, 55, 56, 57, 58] 8 (α := Nat) (fun i => [(36, .int .i64 i), (10, .int .i64 (mustN f w i : Nat)), (11, .int .i64 (canN f w i : Nat))]) (fun i => _) (fun i h_i => i ≤ s.joints.length) (fun i => s.joints.length - i) (0) ⟨rfl, rfl, rfl, trivial⟩ (rfl) (Nat.zero_le _) ?_
      rintro i T1 h_i E_i J_i
      refine goes_norm [_, _, _, _, _, _, _, _] rfl ?_
      refine xp_seq ?_
      refine xp_region rfl ?_
      refine op_pure (pv_of (v := .bool _) rfl) ?_
      refine xp_seq ?_
      refine xp_cond rfl (fun hti => ?_) (fun hti => ?_)
      · skip
        have hil := ltI hti
        have hi3 : i < 3 := by omega
        have fbi := fb.at i
        have hm := mustN_le f w i
        have hcn := canN_le f w i
        refine xp_skip ?_
        refine xp_seq ?_
        refine xp_block ?_
        refine xp_seq ?_
        refine xp_region rfl ?_
        refine op_pure (pv_move (v := .int .i64 _) rfl) ?_
        refine op_pure (pv_assign (v := .int .i64 _) rfl) ?_
        refine xp_cutB [10, 39, 40, 41, 42, 43, 44, 45, 46] 8 (α := Unit) (fun u => [(10, .int .i64 (mustN f w (i + 1) : Nat))]) (fun u L => L) (fun u h_u => True) ?_ ?_
        · skip
          refine xp_seq ?_
          refine xp_dw [] rfl rfl rfl ?_
          refine dw_pure (i := 0) rfl (by decide +kernel) (pv_move (v := .int .i64 _) rfl) ?_
          refine dw_pure (i := 1) rfl (by decide +kernel) (pv_indexA rfl rfl rfl rfl (by omega) (by omega)) ?_
          refine dw_load (i := 2) rfl (by decide +kernel) ?_
          refine op_loadP 7 (v := .int .u64 (f.at i : Nat)) rfl rfl rfl (fate_arr f i hi3) ?_
          refine dw_load (i := 3) rfl (by decide +kernel) ?_
          refine op_loadP 1 (v := .int .i64 _) rfl rfl rfl rfl ?_
          refine dw_last (i := 4) rfl (by decide +kernel) (by decide +kernel) ?_
          refine op_fn (caps := []) (vs := [.int .u64 _, .int .i64 _]) rfl rfl rfl (upto_ok (f.at i) w (by omega) (by omega) h_i) ?_
          rintro _ h5 E5 rfl
          refine dw_pure (i := 5) rfl (by decide +kernel) (pv_of (v := .bool _) rfl) ?_
          refine dw_end rfl ?_
          refine xp_cond rfl (fun hu => ?_) (fun hu => ?_)
          · skip
            have hu' : uptoM (f.at i) w = 0 := by simpa using hu
            refine xp_region rfl ?_
            refine op_pure (pv_move (v := .int .i64 _) rfl) ?_
            refine op_pure (pv_arith rfl (by omega)) ?_
            refine op_pure (pv_assign (v := .int .i64 _) rfl) ?_
            refine ⟨(), ⟨intE (by rw [mustN, if_pos hu']; omega), trivial⟩, rfl, rfl, E5, fun h3 E3 => by first | trivial | omega | (refine ⟨?_, ?_⟩ <;> omega), ?_⟩
            repeat (first | exact off_refl _ _ | exact off_base _ _ _ | refine off_upd (by decide) ?_ | refine off_updL rfl ?_ | refine off_mix rfl ?_)
          · skip
            have hu' : ¬ uptoM (f.at i) w = 0 := by simpa using hu
            refine xp_skip ?_
            refine ⟨(), ⟨intE (by rw [mustN, if_neg hu']; omega), trivial⟩, rfl, rfl, E5, fun h3 E3 => by first | trivial | omega | (refine ⟨?_, ?_⟩ <;> omega), ?_⟩
            repeat (first | exact off_refl _ _ | exact off_base _ _ _ | refine off_upd (by decide) ?_ | refine off_updL rfl ?_ | refine off_mix rfl ?_)
        · rintro u T2 h_u E_u J_u
          refine goes_norm [_, _, _, _, _, _, _, _] rfl ?_
          refine xp_seq ?_
          refine xp_dw [] rfl rfl rfl ?_
          refine dw_pure (i := 0) rfl (by decide +kernel) (pv_move (v := .int .i64 _) rfl) ?_
          refine dw_pure (i := 1) rfl (by decide +kernel) (pv_indexA rfl rfl rfl rfl (by omega) (by omega)) ?_
          refine dw_load (i := 2) rfl (by decide +kernel) ?_
          refine op_loadP 7 (v := .int .u64 (f.at i : Nat)) rfl rfl rfl (fate_arr f i hi3) ?_
          refine dw_pure (i := 3) rfl (by decide +kernel) (pv_move (v := .int .i64 _) rfl) ?_
          refine dw_pure (i := 4) rfl (by decide +kernel) (pv_indexA rfl rfl rfl rfl (by omega) (by omega)) ?_
          refine dw_load (i := 5) rfl (by decide +kernel) ?_
          refine op_loadP 7 (v := .int .u64 (f.at i : Nat)) rfl rfl rfl (fate_arr f i hi3) ?_
          refine dw_load (i := 6) rfl (by decide +kernel) ?_
          refine op_loadP 1 (v := .int .i64 _) rfl rfl rfl rfl ?_
          refine dw_eff (i := 7) rfl (by decide +kernel) ?_
          refine op_fn (caps := []) (vs := [.int .u64 _, .int .i64 _]) rfl rfl rfl (upto_ok (f.at i) w (by omega) (by omega) h_u) ?_
          rintro _ h5 E5 rfl
          refine ⟨ext_wlm E5 _, ?_⟩
          refine dw_pure (i := 8) rfl (by decide +kernel) (pv_of (v := .bool _) rfl) ?_
          refine dw_end rfl ?_
          refine xp_cond rfl (fun hu => ?_) (fun hu => ?_)
          · skip
            have hu' : f.at i ≠ uptoM (f.at i) w := by
              intro e
              rw [← e] at hu
              simp at hu
            refine xp_region rfl ?_
            refine op_pure (pv_move (v := .int .i64 _) rfl) ?_
            refine op_pure (pv_arith rfl (by omega)) ?_
            refine op_pure (pv_assign (v := .int .i64 _) rfl) ?_
            refine xp_region rfl ?_
            refine op_pure (pv_arith rfl (by omega)) ?_
            refine op_pure (pv_move (v := .int .i64 _) rfl) ?_
            refine ⟨i + 1, ⟨rfl, rfl, intE (by rw [canN, if_pos hu']; omega), trivial⟩, rfl, rfl, (Ext.trans (Ext.trans E_i E_u) E5), fun h3 E3 => by omega, by first | omega | (dsimp only; omega), ?_⟩
            repeat (first | exact off_base _ _ _ | refine off_upd (by decide) ?_ | refine off_updL rfl ?_ | refine off_mix rfl ?_)
          · skip
            have hu' : ¬ f.at i ≠ uptoM (f.at i) w := by
              intro e
              simp at hu
              exact e (by exact_mod_cast hu)
            refine xp_skip ?_
            refine xp_region rfl ?_
            refine op_pure (pv_arith rfl (by omega)) ?_
            refine op_pure (pv_move (v := .int .i64 _) rfl) ?_
            refine ⟨i + 1, ⟨rfl, rfl, intE (by rw [canN, if_neg hu']; omega), trivial⟩, rfl, rfl, (Ext.trans (Ext.trans E_i E_u) E5), fun h3 E3 => by omega, by first | omega | (dsimp only; omega), ?_⟩
            repeat (first | exact off_base _ _ _ | refine off_upd (by decide) ?_ | refine off_updL rfl ?_ | refine off_mix rfl ?_)
      · skip
        have hie : i = s.joints.length := by have := geI hti; omega
        subst hie
        refine xp_exit ?_
        refine xp_region rfl ?_
        refine op_pure (pv_fieldAddr rfl rfl rfl rfl 0 rfl) ?_
        refine op_loadP 5 (v := .int .i64 _) rfl rfl rfl rfl ?_
        refine op_pure (pv_move (v := .int .i64 _) rfl) ?_
        refine op_pure (pv_min rfl rfl) ?_
        refine op_pure (pv_fieldAddr rfl rfl rfl rfl 1 rfl) ?_
        refine op_loadP 5 (v := .int .i64 _) rfl rfl rfl rfl ?_
        refine op_pure (pv_move (v := .int .i64 _) rfl) ?_
        refine op_pure (pv_max rfl rfl) ?_
        refine op_pure (pv_build (zc := [_, _]) (vs := [(0, .int .i64 _), (1, .int .i64 _)]) (cs := [_, _]) rfl rfl rfl rfl rfl rfl) ?_
        refine op_storeP 5 (v := .agg #[.int .i64 _, .int .i64 _]) (vs := [_, _]) (c' := [_, _]) rfl rfl rfl rfl rfl rfl rfl rfl rfl ?_
        refine wp_norm [_, _, _, _, _, _, _, _] rfl ?_
        intro V2
        refine ⟨rfl, ⟨_, _, rfl⟩, ?_⟩
        have V3 := valid_set (o' := obL lp .ready none) V2 (i := 6) rfl
        obtain ⟨h9, E9, e9, V9⟩ := wl_drop [_] [_, _, _, _, _, _, _] V3
        refine ⟨h9, _, e9, V9, Ext.trans E_i E9, rfl, Ext.trans (Ext.trans E0 E_i) E9, ?_⟩
        have eL : soundLo s w (done ++ [f]) = min (soundLo s w done) (mustN f w s.joints.length) := by unfold soundLo; rw [List.foldl_append]; rfl
        have eH : soundHi s w (done ++ [f]) = max (soundHi s w done) (canN f w s.joints.length) := by unfold soundHi; rw [List.foldl_append]; rfl
        rw [eL, eH, minN, maxN]
        rfl
    · rintro v H ⟨h', M', rfl, V', E', done, hdone, E0, rfl⟩
      refine ⟨h', [_, _, _, _, _, _], .ready, none, rfl, V', by simp, fun h'' E'' => ?_⟩
      refine goes_norm [_, _, _, _, _, _] rfl ?_
      refine xp_seq ?_
      refine xp_region rfl ?_
      refine op_loadPA 5 (vs := [.int .i64 _, .int .i64 _]) rfl rfl rfl rfl rfl ?_
      refine op_storeP 2 (v := .agg #[.int .i64 _, .int .i64 _]) (vs := [_, _]) (c' := [_, _]) rfl rfl rfl rfl rfl rfl rfl rfl rfl ?_
      refine wp_norm [_, _, _, _, _, _] rfl ?_
      refine op_pure (pv_assign (v := .int .i64 _) rfl) ?_
      refine xp_ret ?_
      refine res_listM (vs := [_, _]) rfl Try.results9 ⟨resV_agg 2 rfl rfl rfl rfl rfl (vs := [.int .i64 _, .int .i64 _]) rfl, resV_tmp rfl rfl, trivial⟩ fun hM EM V => ?_
      refine ⟨Ext.trans (Ext.trans (Ext.trans (Ext.trans (Ext.trans (Ext.trans E1 E2) E3) E4) E') E'') (Ext.trans EM (ext_wl V)), ?_⟩
      rw [soundV, if_pos he, Int.toNat_natCast, ← soundLo_same hdone, ← soundHi_same hdone, he]
      rfl
  · skip
    refine call_body Try.func9 rfl Try.ntmps9 rfl ?_
    refine xp_seq ?_
    refine xp_region rfl ?_
    refine op_box (v := .agg #[.slice _ _ _, .slice _ _ _, .slice _ _ _, .slice _ _ _]) (cs := [_, _, _, _]) rfl rfl fun b2 hb2 => ?_
    refine wp_norm [_] rfl ?_
    refine op_box (v := .int .i64 _) (cs := [_]) rfl rfl fun b3 hb3 => ?_
    refine wp_norm [_, _] rfl ?_
    refine op_alloc (cs := [_, _]) rfl rfl fun b4 hb4 => ?_
    refine wp_norm [_, _, _] rfl ?_
    refine op_pure (pv_assign (v := .int .i64 _) rfl) ?_
    refine xp_seq ?_
    refine xp_dw [] rfl rfl rfl ?_
    refine dw_load (i := 0) rfl (by decide +kernel) ?_
    refine op_loadPA 0 (vs := [.slice _ _ _, .slice _ _ _, .slice _ _ _, .slice _ _ _]) rfl rfl rfl rfl rfl ?_
    refine dw_load (i := 1) rfl (by decide +kernel) ?_
    refine op_loadPA 0 (vs := [.slice _ _ _, .slice _ _ _, .slice _ _ _, .slice _ _ _]) rfl rfl rfl rfl rfl ?_
    refine dw_load (i := 2) rfl (by decide +kernel) ?_
    refine op_loadP 1 (v := .int .i64 _) rfl rfl rfl rfl ?_
    refine dw_eff (i := 3) rfl (by decide +kernel) ?_
    refine op_fn (caps := []) (vs := [.agg #[.slice _ _ _, .slice _ _ _, .slice _ _ _, .slice _ _ _], .int .i64 _]) rfl rfl rfl (isWeek_ok s week A0 A1 A2 A3 c0 c1 c2 c3 Sm.h0 h) ?_
    rintro _ h1 E1 ⟨fn, caps, rfl, ak⟩
    refine ⟨ext_wlm E1 _, ?_⟩
    refine dw_eff (i := 4) rfl (by decide +kernel) ?_
    refine op_buildSlice (zc := [_]) (vs := [(0, _)]) (cs := [_]) rfl rfl rfl rfl rfl rfl rfl fun b18 hb18 => ?_
    refine ⟨ext_new hb18 _, ?_⟩
    refine dw_norm [_, _, _, _] rfl ?_
    refine dw_pub 3 rfl ?_
    intro h2 E2 p18
    refine dw_norm [_, _, _, _] rfl ?_
    refine dw_last (i := 5) rfl (by decide +kernel) (by decide +kernel) ?_
    refine op_fn (caps := []) (vs := [.agg #[.slice _ _ _, .slice _ _ _, .slice _ _ _, .slice _ _ _], .slice _ _ _]) rfl rfl rfl (known_no s A0 A1 A2 A3 c0 c1 c2 c3 h2 (R.ext (Ext.trans E1 E2)) Sm.h0 Sm.h1 Sm.h2 Sm.h3 [_] [_] _ _ (rowFn p18) rfl (by simp) (ask1 (ak.ext E2)) he) ?_
    rintro _ h3 E3 rfl
    refine dw_pure (i := 6) rfl (by decide +kernel) (pv_move (v := .tuple #[.agg #[.slice _ _ _, .map _, .map _, .map _, .map _, .slice _ _ _, .map _, .map _, .map _, .map _], .int .i64 _]) rfl) ?_
    refine dw_pure (i := 7) rfl (by decide +kernel) (pv_of (v := .agg #[.slice _ _ _, .map _, .map _, .map _, .map _, .slice _ _ _, .map _, .map _, .map _, .map _]) rfl) ?_
    refine dw_pure (i := 8) rfl (by decide +kernel) (pv_of (v := .int .i64 _) rfl) ?_
    refine dw_eff (i := 9) rfl (by decide +kernel) ?_
    refine op_alloc (cs := [_, _, _, _, _, _, _, _, _, _]) rfl rfl fun b6 hb6 => ?_
    refine ⟨ext_new hb6 _, ?_⟩
    refine dw_norm [_, _, _, _, _] rfl ?_
    refine dw_last (i := 10) rfl (by decide +kernel) (by decide +kernel) ?_
    refine op_storeP 4 (v := .agg #[.slice _ _ _, .map _, .map _, .map _, .map _, .slice _ _ _, .map _, .map _, .map _, .map _]) (vs := [_, _, _, _, _, _, _, _, _, _]) (c' := [_, _, _, _, _, _, _, _, _, _]) rfl rfl rfl rfl rfl rfl rfl rfl rfl ?_
    refine dw_norm [_, _, _, _, _] rfl ?_
    refine dw_pure (i := 11) rfl (by decide +kernel) (pv_assign (v := .int .i64 _) rfl) ?_
    refine dw_end rfl ?_
    refine xp_seq ?_
    refine xp_seq ?_
    refine xp_region rfl ?_
    refine op_pure (pv_move (v := .int .i64 _) rfl) ?_
    refine op_pure (pv_of (v := .bool _) rfl) ?_
    refine xp_condT rfl (by simpa [soundE] using he) ?_
    refine xp_seq ?_
    refine xp_region rfl ?_
    refine op_pure (pv_build (zc := [_, _]) (vs := []) (cs := [_, _]) rfl rfl rfl rfl rfl rfl) ?_
    refine op_pure (pv_move (v := .int .i64 _) rfl) ?_
    refine op_storeP 2 (v := .agg #[.int .i64 _, .int .i64 _]) (vs := [_, _]) (c' := [_, _]) rfl rfl rfl rfl rfl rfl rfl rfl rfl ?_
    refine wp_norm [_, _, _, _, _] rfl ?_
    refine op_pure (pv_assign (v := .int .i64 _) rfl) ?_
    refine xp_ret ?_
    refine res_list (vs := [_, _]) Try.results9 ⟨resV_agg 2 rfl rfl rfl rfl rfl (vs := [.int .i64 _, .int .i64 _]) rfl, resV_tmp rfl rfl, trivial⟩ fun V => ?_
    refine ⟨(Ext.trans (Ext.trans (Ext.trans E1 E2) E3) (ext_wl V)), ?_⟩
    rw [soundV, if_neg he]; rfl
end Go.Proofs.Ytledjpdpkbifgaa
/- Walks: the examples of TopLeaky. Conditions: as each theorem states. -/
namespace Go.Proofs.Ytledjpdpkbifgaa
open Go Go.HL Go.Proofs Go.Wx Go.Rd Go.Bw
section
variable [Lvl]
set_option maxRecDepth 100000
theorem Leak_sum (hph : Lvl.ph = true) (b : BelP) (BB : BelB b) (A TA : Option Addr) (cA tA : Nat) (h : AH) (R : Row h 2 rgC A b.corners) :
    FnT Try.prog 8 #[belV A TA cA tA b] h (fun v _ => v = .tuple #[rgV ⟨sumMn b.corners, sumMx b.corners⟩, .int .i64 0]) :=
  (Leak_ok hph b BB A TA cA tA h R).mono (fun _ _ r => ⟨r.1, by
    have := span_eq BB
    rw [r.2, leakP, this.1, this.2]⟩) fun _ _ y => y
def bel0 : BelP := ⟨9, ⟨0, 0⟩, [⟨0, 1⟩, ⟨1, 1⟩]⟩
theorem bel0_B : BelB bel0 := ⟨by decide, by decide, by decide, by decide, by decide, by decide, by decide⟩
def seaA : Season := ⟨[⟨5, 6⟩], [⟨0, 0⟩], [⟨1, ⟨6, 6⟩, ⟨0, 0⟩, ⟨1, 1⟩, ⟨9, 9⟩⟩], []⟩
theorem smallSA : Small seaA := ⟨by decide, by decide, by decide, by decide⟩
theorem rgSelf (a : Rg) : pev Try.prog (Op.equalIn Op.maxDepth 36 (.agg (rgC a).toArray) (.agg (rgC a).toArray)) = some true := (rgEq a a).trans (by simp)
theorem soundA (A0 A1 A2 A3 : Option Addr) (c0 c1 c2 c3 : Nat) (h : AH) (R : SeasonR h A0 A1 A2 A3 seaA) : FnT Try.prog 9 #[seasonV A0 A1 A2 A3 c0 c1 c2 c3 seaA, .int .i64 0] h (fun v _ => v = .tuple #[rgV ⟨0, 1⟩, .int .i64 0]) :=
  (Sound_ok seaA smallSA 0 A0 A1 A2 A3 c0 c1 c2 c3 h R).mono (fun _ _ r => ⟨r.1, by rw [r.2, show soundV seaA 0 = ⟨0, 1⟩ by decide +kernel, show soundE seaA 0 = 0 by decide +kernel]⟩) fun _ _ y => y
theorem leakyAwake_ok (hph : Lvl.ph = true) (h : AH) : FnT Try.prog 13 #[] h (fun v _ => v = .bool true) := by
  refine call_body Try.func13 rfl Try.ntmps13 rfl ?_
  refine xp_seq ?_
  refine xp_region rfl ?_
  refine op_pure (pv_assign (v := .bool _) rfl) ?_
  refine xp_seq ?_
  refine xp_region rfl ?_
  refine op_pure (pv_build (zc := [_, _]) (vs := [(1, .int .i64 _)]) (cs := [_, _]) rfl rfl rfl rfl rfl rfl) ?_
  refine op_pure (pv_build (zc := [_, _]) (vs := [(0, .int .i64 _), (1, .int .i64 _)]) (cs := [_, _]) rfl rfl rfl rfl rfl rfl) ?_
  refine op_buildSlice (zc := [_, _]) (vs := [(0, .agg #[.int .i64 _, .int .i64 _]), (1, .agg #[.int .i64 _, .int .i64 _])]) (cs := [_, _, _, _]) rfl rfl rfl rfl rfl rfl rfl fun b9 hb9 => ?_
  refine wp_norm [_] rfl ?_
  refine op_pure (pv_build (zc := [_, _, _, _, _]) (vs := [(0, .int .i64 _), (2, .slice _ _ _)]) (cs := [_, _, _, _, _]) rfl rfl rfl rfl rfl rfl) ?_
  refine wp_pub 0 rfl rfl ?_
  intro g1 G1 P1
  refine wp_norm [_] rfl ?_
  refine wp_norm [_] rfl ?_
  refine op_fn (caps := []) (vs := [.agg #[.int .i64 _, .int .i64 _, .int .i64 _, .slice _ _ _, .slice _ _ _]]) rfl rfl rfl ((Leak_sum hph bel0 bel0_B _ _ _ _ g1 (row_of_block (enc := rgC) (m := 2) (l := bel0.corners) (fun _ _ => rfl) P1))) ?_
  rintro _ e1 E1 rfl
  refine op_pure (pv_move (v := .tuple #[.agg #[.int .i64 _, .int .i64 _], .int .i64 _]) rfl) ?_
  refine op_pure (pv_of (v := .agg #[.int .i64 _, .int .i64 _]) rfl) ?_
  refine op_pure (pv_of (v := .int .i64 _) rfl) ?_
  refine op_alloc (cs := [_, _]) rfl rfl fun b1 hb1 => ?_
  refine wp_norm [_, _] rfl ?_
  refine op_storeP 1 (v := .agg #[.int .i64 _, .int .i64 _]) (vs := [_, _]) (c' := [_, _]) rfl rfl rfl rfl rfl rfl rfl rfl rfl ?_
  refine wp_norm [_, _] rfl ?_
  refine op_pure (pv_assign (v := .int .i64 _) rfl) ?_
  refine xp_seq ?_
  refine xp_region rfl ?_
  refine op_pure (pv_build (zc := [_, _]) (vs := [(0, .int .i64 _), (1, .int .i64 _)]) (cs := [_, _]) rfl rfl rfl rfl rfl rfl) ?_
  refine op_buildSlice (zc := [_, _]) (vs := [(0, .agg #[.int .i64 _, .int .i64 _])]) (cs := [_, _]) rfl rfl rfl rfl rfl rfl rfl fun b15 hb15 => ?_
  refine wp_norm [_, _, _] rfl ?_
  refine op_pure (pv_build (zc := [_, _]) (vs := []) (cs := [_, _]) rfl rfl rfl rfl rfl rfl) ?_
  refine op_buildSlice (zc := [_, _]) (vs := [(0, .agg #[.int .i64 _, .int .i64 _])]) (cs := [_, _]) rfl rfl rfl rfl rfl rfl rfl fun b17 hb17 => ?_
  refine wp_norm [_, _, _, _] rfl ?_
  refine op_pure (pv_build (zc := [_, _]) (vs := [(0, .int .i64 _), (1, .int .i64 _)]) (cs := [_, _]) rfl rfl rfl rfl rfl rfl) ?_
  refine op_pure (pv_build (zc := [_, _]) (vs := [(0, .int .i64 _), (1, .int .i64 _)]) (cs := [_, _]) rfl rfl rfl rfl rfl rfl) ?_
  refine op_pure (pv_build (zc := [_, _]) (vs := [(0, .int .i64 _), (1, .int .i64 _)]) (cs := [_, _]) rfl rfl rfl rfl rfl rfl) ?_
  refine op_pure (pv_build (zc := [_, _]) (vs := [(0, .int .i64 _), (1, .int .i64 _)]) (cs := [_, _]) rfl rfl rfl rfl rfl rfl) ?_
  refine op_pure (pv_build (zc := [_, _, _, _, _, _, _, _, _]) (vs := [(0, .int .i64 _), (1, .agg #[.int .i64 _, .int .i64 _]), (2, .agg #[.int .i64 _, .int .i64 _]), (3, .agg #[.int .i64 _, .int .i64 _]), (4, .agg #[.int .i64 _, .int .i64 _])]) (cs := [_, _, _, _, _, _, _, _, _]) rfl rfl rfl rfl rfl rfl) ?_
  refine op_buildSlice (zc := [_, _, _, _, _, _, _, _, _]) (vs := [(0, .agg #[.int .i64 _, .int .i64 _, .int .i64 _, .int .i64 _, .int .i64 _, .int .i64 _, .int .i64 _, .int .i64 _, .int .i64 _])]) (cs := [_, _, _, _, _, _, _, _, _]) rfl rfl rfl rfl rfl rfl rfl fun b23 hb23 => ?_
  refine wp_norm [_, _, _, _, _] rfl ?_
  refine op_pure (pv_build (zc := [_, _, _, _]) (vs := [(0, .slice _ _ _), (1, .slice _ _ _), (2, .slice _ _ _)]) (cs := [_, _, _, _]) rfl rfl rfl rfl rfl rfl) ?_
  refine op_alloc (cs := [_, _, _, _]) rfl rfl fun b3 hb3 => ?_
  refine wp_norm [_, _, _, _, _, _] rfl ?_
  refine op_storeP 5 (v := .agg #[.slice _ _ _, .slice _ _ _, .slice _ _ _, .slice _ _ _]) (vs := [_, _, _, _]) (c' := [_, _, _, _]) rfl rfl rfl rfl rfl rfl rfl rfl rfl ?_
  refine wp_norm [_, _, _, _, _, _] rfl ?_
  refine goes_pub 2 rfl ?_
  intro g2 G2 P2
  refine goes_pub 3 rfl ?_
  intro g3 G3 P3
  refine goes_pub 4 rfl ?_
  intro g4 G4 P4
  refine goes_norm [_, _, _, _, _, _] rfl ?_
  refine xp_seq ?_
  refine xp_region rfl ?_
  refine op_loadPA 5 (vs := [.slice _ _ _, .slice _ _ _, .slice _ _ _, .slice _ _ _]) rfl rfl rfl rfl rfl ?_
  refine op_fn (caps := []) (vs := [.agg #[.slice _ _ _, .slice _ _ _, .slice _ _ _, .slice _ _ _], .int .i64 _]) rfl rfl rfl (soundA _ _ _ _ _ _ _ _ g4 ⟨row_of_block (enc := rgC) (m := 2) (l := seaA.heats) (fun _ _ => rfl) ((Ext.trans G3 G4) _ _ P2), row_of_block (enc := rgC) (m := 2) (l := seaA.damps) (fun _ _ => rfl) (G4 _ _ P3), row_of_block (enc := jointC) (m := 9) (l := seaA.joints) (fun _ _ => rfl) ((Ext.refl _) _ _ P4), fun _ h => (by cases h), Rd.nil _ _⟩) ?_
  rintro _ e2 E2 rfl
  refine op_pure (pv_move (v := .tuple #[.agg #[.int .i64 _, .int .i64 _], .int .i64 _]) rfl) ?_
  refine op_pure (pv_of (v := .agg #[.int .i64 _, .int .i64 _]) rfl) ?_
  refine op_pure (pv_of (v := .int .i64 _) rfl) ?_
  refine op_alloc (cs := [_, _]) rfl rfl fun b4 hb4 => ?_
  refine wp_norm [_, _, _, _, _, _, _] rfl ?_
  refine op_storeP 6 (v := .agg #[.int .i64 _, .int .i64 _]) (vs := [_, _]) (c' := [_, _]) rfl rfl rfl rfl rfl rfl rfl rfl rfl ?_
  refine wp_norm [_, _, _, _, _, _, _] rfl ?_
  refine op_pure (pv_assign (v := .int .i64 _) rfl) ?_
  refine xp_seq ?_
  refine xp_region rfl ?_
  refine op_pure (pv_move (v := .int .i64 _) rfl) ?_
  refine op_pure (pv_of (v := .bool _) rfl) ?_
  refine op_pure (pv_move (v := .bool _) rfl) ?_
  refine guard_yes rfl rfl ?_
  refine op_pure (pv_move (v := .int .i64 _) rfl) ?_
  refine guard_yes rfl rfl ?_
  refine op_pure (pv_of (v := .bool _) rfl) ?_
  refine op_pure (pv_pickT rfl rfl (v := .bool _) rfl) ?_
  refine op_pure (pv_move (v := .bool _) rfl) ?_
  refine guard_yes rfl rfl ?_
  refine op_loadPA 1 (vs := [.int .i64 _, .int .i64 _]) rfl rfl rfl rfl rfl ?_
  refine guard_yes rfl rfl ?_
  refine op_pure (pv_build (zc := [_, _]) (vs := [(0, .int .i64 _), (1, .int .i64 _)]) (cs := [_, _]) rfl rfl rfl rfl rfl rfl) ?_
  refine guard_yes rfl rfl ?_
  refine op_pure (pv_eqA rfl rfl (by kernel_rfl) (rgSelf ⟨1, 2⟩)) ?_
  refine op_pure (pv_pickT rfl rfl (v := .bool _) rfl) ?_
  refine op_pure (pv_move (v := .bool _) rfl) ?_
  refine guard_yes rfl rfl ?_
  refine op_loadPA 6 (vs := [.int .i64 _, .int .i64 _]) rfl rfl rfl rfl rfl ?_
  refine guard_yes rfl rfl ?_
  refine op_pure (pv_build (zc := [_, _]) (vs := [(0, .int .i64 _), (1, .int .i64 _)]) (cs := [_, _]) rfl rfl rfl rfl rfl rfl) ?_
  refine guard_yes rfl rfl ?_
  refine op_pure (pv_eqA rfl rfl (by kernel_rfl) (rgSelf ⟨0, 1⟩)) ?_
  refine op_pure (pv_pickT rfl rfl (v := .bool _) rfl) ?_
  refine op_pure (pv_assign (v := .bool _) rfl) ?_
  refine xp_ret ?_
  refine res_list (vs := [_]) Try.results13 ⟨resV_tmp rfl rfl, trivial⟩ fun V => ?_
  exact ⟨(Ext.trans (Ext.trans (Ext.trans (Ext.trans (Ext.trans (Ext.trans G1 E1) G2) G3) G4) E2) (ext_wl V)), rfl⟩
theorem corn_B {s : Season} (w n : Nat) (h3 : n ≤ 3) : BelB ⟨20, ⟨0, 0⟩, cornS s w n⟩ := ⟨(by decide : (1 : Int) ≤ 20), (by decide : (20 : Int) ≤ 200), (by decide : (0 : Int) ≤ 0), (by decide : (0 : Int) ≤ 0), (by decide : (0 : Int) ≤ 20), by show (cornS s w n).length ≤ 4; rw [cornS_len]; omega, fun r hr => by
  obtain ⟨i, _, rfl⟩ := List.mem_map.1 hr
  have := corn_b s w i
  omega⟩
end
end Go.Proofs.Ytledjpdpkbifgaa
/- Plain: ranges made narrower, one by one. Conditions: as each theorem states. -/
namespace Go.Wx
open Go Go.HL
variable [Lvl]
def NarrowL (ts : List Int) (rs qs : List Rg) : Prop := qs.length = rs.length ∧ ∀ (k : Nat) q r t, qs[k]? = some q → rs[k]? = some r → ts[k]? = some t → r.mn ≤ q.mn ∧ q.mn ≤ t ∧ t ≤ q.mx ∧ q.mx ≤ r.mx
theorem NarrowL.start {ts : List Int} {rs : List Rg} (n : NearL ts rs) (hb : ∀ t ∈ ts, -50 ≤ t ∧ t ≤ 100) : NarrowL ts rs rs := by
  refine ⟨rfl, fun k q r t h1 h2 h3 => ?_⟩
  rw [h1] at h2
  cases h2
  have hn := n.at' k t q h3 h1
  have := hb t (List.mem_of_getElem? h3)
  have := hn.bd this.1 this.2
  omega
theorem NarrowL.set {ts : List Int} {rs qs : List Rg} (n : NarrowL ts rs qs) {i : Nat} {r q : Rg} {t : Int} (hr : rs[i]? = some r) (ht : ts[i]? = some t) (h : r.mn ≤ q.mn ∧ q.mn ≤ t ∧ t ≤ q.mx ∧ q.mx ≤ r.mx) : NarrowL ts rs (qs.set i q) := by
  refine ⟨by rw [List.length_set]; exact n.1, fun k q' r' t' h1 h2 h3 => ?_⟩
  rw [List.getElem?_set] at h1
  by_cases hk : i = k
  · subst hk
    rw [if_pos rfl] at h1
    split at h1
    · cases h1
      rw [hr] at h2
      rw [ht] at h3
      cases h2
      cases h3
      exact h
    · cases h1
  · rw [if_neg hk] at h1
    exact n.2 k q' r' t' h1 h2 h3
theorem with_T {a b c : Nat} {s x : Season} {ht dt fs : List Int} (T : SeasonT a b c x ht dt fs) (B : Better x s) {r : Seen} (hr : SeenT ht.length fs r) : SeasonT a b (c + 1) (withS x r) ht dt fs ∧ Better (withS x r) s := by
  refine ⟨⟨T.w1, T.ww, T.dl, T.hn, T.dn, T.hb, T.db, T.jl, T.js, ?_, fun q hq => ?_⟩, B.js, B.hl, B.dl, B.hs, B.ds, fun q hq => List.mem_append_left _ (B.rs q hq)⟩
  · have := T.rl
    show (x.reports ++ [r]).length ≤ c + 1
    rw [List.length_append, List.length_singleton]
    omega
  · rcases List.mem_append.1 hq with h | h
    · exact T.rs q h
    · rw [List.mem_singleton.1 h]; exact hr
end Go.Wx
/- Walks: small functions of the laws. Conditions: as each theorem states. -/
namespace Go.Proofs.Ytledjpdpkbifgaa
open Go Go.HL Go.Proofs Go.Wx
variable [Lvl]
set_option maxRecDepth 100000
theorem Wider_ok (x y : Rg) (h : AH) : FnT Try.prog 10 #[rgV x, rgV y] h (fun v _ => v = .bool (decide (x.mn ≤ y.mn) && decide (y.mx ≤ x.mx))) := by
  refine call_body Try.func10 rfl Try.ntmps10 rfl ?_
  refine xp_seq ?_
  refine xp_region rfl ?_
  refine op_box (v := .agg #[.int .i64 _, .int .i64 _]) (cs := [_, _]) rfl rfl fun b2 hb2 => ?_
  refine wp_norm [_] rfl ?_
  refine op_box (v := .agg #[.int .i64 _, .int .i64 _]) (cs := [_, _]) rfl rfl fun b3 hb3 => ?_
  refine wp_norm [_, _] rfl ?_
  refine op_pure (pv_assign (v := .bool _) rfl) ?_
  refine xp_seq ?_
  refine xp_region rfl ?_
  refine op_pure (pv_fieldAddr rfl rfl rfl rfl 0 rfl) ?_
  refine op_loadP 0 (v := .int .i64 _) rfl rfl rfl rfl ?_
  refine op_pure (pv_fieldAddr rfl rfl rfl rfl 0 rfl) ?_
  refine op_loadP 1 (v := .int .i64 _) rfl rfl rfl rfl ?_
  refine op_pure (pv_of (v := .bool _) rfl) ?_
  refine op_pure (pv_move (v := .bool _) rfl) ?_
  rcases Bool.eq_false_or_eq_true (decide (x.mn ≤ y.mn)) with e | e
  · skip
    refine guard_yes rfl e ?_
    refine op_pure (pv_fieldAddr rfl rfl rfl rfl 1 rfl) ?_
    refine guard_yes rfl e ?_
    refine op_loadP 1 (v := .int .i64 _) rfl rfl rfl rfl ?_
    refine guard_yes rfl e ?_
    refine op_pure (pv_fieldAddr rfl rfl rfl rfl 1 rfl) ?_
    refine guard_yes rfl e ?_
    refine op_loadP 0 (v := .int .i64 _) rfl rfl rfl rfl ?_
    refine guard_yes rfl e ?_
    refine op_pure (pv_of (v := .bool _) rfl) ?_
    refine op_pure (pv_pickT rfl e (v := .bool _) rfl) ?_
    refine op_pure (pv_assign (v := .bool _) rfl) ?_
    refine xp_ret ?_
    refine res_list (vs := [_]) Try.results10 ⟨resV_tmp rfl rfl, trivial⟩ fun V => ?_
    exact ⟨(ext_wl V), by rw [e]; rfl⟩
  · skip
    refine guard_no rfl e ?_
    refine guard_no rfl e ?_
    refine guard_no rfl e ?_
    refine guard_no rfl e ?_
    refine guard_no rfl e ?_
    refine op_pure (pv_pickF rfl e (v := .bool _) rfl) ?_
    refine op_pure (pv_assign (v := .bool _) rfl) ?_
    refine xp_ret ?_
    refine res_list (vs := [_]) Try.results10 ⟨resV_tmp rfl rfl, trivial⟩ fun V => ?_
    exact ⟨(ext_wl V), by rw [e]; rfl⟩
end Go.Proofs.Ytledjpdpkbifgaa
/- Walks: a season without some reports (the reference). Conditions: as each theorem states. -/
namespace Go.Proofs.Ytledjpdpkbifgaa
open Go Go.HL Go.Proofs Go.Wx
variable [Lvl]
set_option maxRecDepth 100000
end Go.Proofs.Ytledjpdpkbifgaa
/- Walks: the law on what truly is so. Conditions: as each theorem states. -/
namespace Go.Proofs.Ytledjpdpkbifgaa
open Go Go.HL Go.Proofs Go.Wx Go.RowKit
variable [Lvl]
set_option maxRecDepth 100000
theorem sound_of {s : Season} (c : CheckS s) (m : mayM s = true) {w : Nat} (hw : w < s.heats.length) : soundE s w = 0 ∧ soundV s w = ⟨soundLo s w (allFates s), soundHi s w (allFates s)⟩ := by
  have e : soundE s w = 0 := known_of c m (by intro x hx; rw [List.mem_singleton.1 hx]; unfold isWeekM inM; rw [if_pos (by simp; omega)])
  exact ⟨e, by unfold soundV; rw [if_pos e, Int.toNat_natCast]⟩
end Go.Proofs.Ytledjpdpkbifgaa
/- The own logic, part Uc: from a walk to the run of a law that starts goroutines. Conditions: none. -/
namespace Go.HL
open Go Go.Wx Go.RowKit Go.Conc Go.ConcN
/-- The run of a law: it ends, true, and leaves what was there. -/
def RunsTrue (P : Program) (f : FuncId) (args : Array Value) (w : World) : Prop :=
  ∃ M last o w' t', runNT P (M + 1) (solo (G (Frame.enter P f args .normal) []) w) #[] = (.ended o w', t') ∧ runN P M (solo (G (Frame.enter P f args .normal) []) w) = .next last ∧ step P last = .ended o w' ∧
    Go.Conc.Good P (fun v W' => v = .bool true ∧ Below w.heap.size w W') last o w' t'
theorem runs_body {P : Program} {f : FuncId} {fn : Func} {c : Code} {args : Array Value} {n t : Nat} {w : World} (hf : P.funcs[f]? = some fn) (hb : fn.body = some c) (hn : fn.ntmps = n) (ha : Nat.ble args.size n = true) (hr : fn.results = #[.tmp t]) (ht : Nat.blt t n = true) (hi : P.inits.idxOf? f = none)
    (x : ∀ h, h = absH w.heap → @xp ⟨true, none, none⟩ P n none c (lawK t h) (argS args) [] [] h) :
    RunsTrue P f args w := by
  letI : Lvl := ⟨true, none, none⟩
  have he : Frame.enter P f args .normal = mk { (default : Frame) with fn := f, kind := .normal, roundOf := none } n (argS args) [] [.code c] := by
    simp [Frame.enter, mk, hf, hb, hn, enter_tmps n args (Nat.le_of_ble_eq_true ha)]
  have hres : ∀ (S : Sl) (w' : World), S t = .bool true → results fn (arr n S) = .pure (.bool true) := by
    intro S w' hs
    unfold results
    rw [hr, List.mapM_toArray]
    have e1 : (arr n S).getD t undef = .bool true := by rw [arr_getD, if_pos (Nat.lt_of_lt_of_le (Nat.lt_succ_self t) (Nat.le_of_ble_eq_true ht)), hs]
    show Sem.pure ((arr n S).getD t undef) = _
    rw [e1]
  have x1 := x _ rfl (absH w.heap) (by have := Fits.nil (valid_nil (Fin.abs w.heap)); rw [wl_nil] at this; exact this) { (default : Frame) with fn := f, kind := .normal, roundOf := none } rfl [] []
  have x2 : Rch P (fun fr cs' H => cs' = [] ∧ fr.mode = .returning ∧ fr.defers = [] ∧ fr.kind = .normal ∧ fr.fn = f ∧ (∃ S, fr.tmps = arr n S ∧ S t = .bool true) ∧ Ext (absH w.heap) H) (mk { (default : Frame) with fn := f, kind := .normal, roundOf := none } n (argS args) [] [.code c]) [] (absH w.heap) := by
    refine x1.bind ?_
    rintro fr cs' H ⟨rfl, e, S', D', L', h', V', kk, a⟩
    cases e with
    | normal =>
      obtain ⟨rfl, ex, hs⟩ := kk
      have a' : fr = mk { (default : Frame) with fn := f, kind := .normal, roundOf := none } n S' [] [] := a
      subst a'
      have hH : H = wl h' L' := by rw [V'.eq]; exact hun_nil _
      subst hH
      refine .ctl (fr' := { mk { (default : Frame) with fn := f, kind := .normal, roundOf := none } n S' [] [] with mode := .returning }) (cs' := []) (fun w => by simp [stepG, stepG.exec, mk]) (.done ⟨rfl, rfl, rfl, rfl, rfl, ⟨S', rfl, hs⟩, ex V'.valid⟩)
    | ret =>
      obtain ⟨rfl, ex, hs⟩ := kk
      obtain ⟨todo, rfl⟩ := a.1 rfl
      have hH : H = wl h' L' := by rw [V'.eq]; exact hun_nil _
      subst hH
      exact .done ⟨rfl, rfl, rfl, rfl, rfl, ⟨S', rfl, hs⟩, ex V'.valid⟩
    | _ => exact kk.elim
  unfold RunsTrue
  rw [he]
  refine x2.ends rfl rfl ?_
  rintro fr cs h w' ⟨rfl, hm, hd, hk, hfn, ⟨S, htm, hs⟩, ex⟩ se rfl
  have hr1 := hres S w' hs
  have hru : (results fn fr.tmps).runT P w' #[] = (.ok (.bool true) w', #[]) := by rw [htm, hr1]; rfl
  have hf' : P.funcs[fr.fn]? = some fn := by rw [hfn]; exact hf
  have hi' : P.inits.idxOf? fr.fn = none := by rw [hfn]; exact hi
  have h1 : stepG P true (G fr []) w' = unwind P true fr [] none w' := by
    simp [stepG, stepG.exec, hm]
  have h2 : unwind P true fr [] none w' = GStep.after (seen P fr.fn #[]) (.ended (.done (.bool true)) w') := by
    unfold unwind
    rw [hd]
    simp only [hm, hf', hru]
    unfold doReturn
    simp only [hk, hi']
    rfl
  refine ⟨rfl, .bool true, seen P fr.fn #[], ?_, fun e he => ?_, rfl, below_of se ex⟩
  · rw [h1, h2]
    simp [GStep.after]
  · simp [seen] at he
end Go.HL
/- Walks: TopLeaky. Conditions: as each theorem states. -/
namespace Go.Proofs.Ytledjpdpkbifgaa
open Go Go.HL Go.Proofs Go.Wx Go.Rd Go.Bw
set_option maxRecDepth 100000
theorem withL_fine [Lvl] {x : Season} (c : CheckS x) {r : Seen} (h5 : x.reports.length < 5) (hr : checkSeenM x r = 0) (m : mayM (withS x r) = true) : withE x r = 0 ∧ withV x r = withS x r := by
  have e : withE x r = 0 := by rw [withE, if_neg (by rw [c.ok]; decide), if_neg (by omega), if_neg (by rw [hr]; decide), m]; rfl
  exact ⟨e, by rw [withV, if_pos e]⟩
theorem verdict_3 (a b : Bool) : verdictM a b = 1 ∨ verdictM a b = 2 ∨ verdictM a b = 3 := by cases a <;> cases b <;> decide
structure LkA where
  rd : Nat
  y : Nat
  xs : Season
  X0 : Option Addr
  X1 : Option Addr
  X2 : Option Addr
  X3 : Option Addr
  k0 : Nat
  k1 : Nat
  k2 : Nat
  k3 : Nat
  wm : Int
  wM : Int
set_option maxHeartbeats 16000000 in
theorem leaky_runs (w : World) (l : List Int) (hl : l.length < 2 ^ 63) (A : Option Addr) (c : Nat) (R : Row (absH w.heap) 1 intC A l) : RunsTrue Try.prog 3 #[.slice A l.length c] w := by
  letI : Lvl := ⟨true, none, none⟩
  refine runs_body Try.func3 rfl Try.ntmps3 rfl Try.results3 rfl (by kernel_rfl) fun h hh => ?_
  rw [← hh] at R
  refine xp_seq ?_
  refine xp_region rfl ?_
  refine op_pure (pv_assign (v := .bool _) rfl) ?_
  refine xp_seq ?_
  refine xp_region rfl ?_
  refine op_pure (pv_move (v := .slice _ _ _) rfl) ?_
  refine op_fnMM [] [] [] rfl rfl rfl ((NewPot_ok l hl A c h R)) ?_
  rintro _ h1 _ E1 ⟨b, x, rfl, rfl⟩
  refine wp_norm [_] rfl ?_
  refine op_pure (pv_assign (v := .pointer _) rfl) ?_
  refine xp_seq ?_
  refine xp_region rfl ?_
  refine op_pure (pv_move (v := .pointer _) rfl) ?_
  refine op_fnMM [] [_] [] (vs := _) rfl rfl rfl ((SeasonOf_ok b x 4 3 2 (by omega) (by omega) (by omega) (by omega) h1)) ?_
  rintro _ h2 _ E2 ⟨x2, s, ht, dt, fs, _, _, rfl, rfl, ⟨A0, A1, A2, A3, c0, c1, c2, c3, rfl, RS⟩, T, HA, hc, DA, dc, FA, fc, rfl, R1, R2, R3⟩
  refine wp_norm [_] rfl ?_
  have C : CheckS s := SeasonT.checkS T (by omega) (by omega) (by omega)
  have h6 := C.w6
  have h1w := C.w1
  have j3 := C.j3
  have hfl : fs.length = s.joints.length := T.js.len
  have hhl : ht.length = s.heats.length := T.hn.len.symm
  have hww := T.ww
  have hdl := T.dl
  refine op_pure (pv_move (v := .tuple #[.agg #[.slice _ _ _, .slice _ _ _, .slice _ _ _, .slice _ _ _], .agg #[.slice _ _ _, .slice _ _ _, .slice _ _ _]]) rfl) ?_
  refine op_pure (pv_of (v := .agg #[.slice _ _ _, .slice _ _ _, .slice _ _ _, .slice _ _ _]) rfl) ?_
  refine op_pure (pv_of (v := .agg #[.slice _ _ _, .slice _ _ _, .slice _ _ _]) rfl) ?_
  refine op_alloc (cs := [_, _, _, _]) rfl rfl fun b4 hb4 => ?_
  refine wp_norm [_, _] rfl ?_
  refine op_alloc (cs := [_, _, _]) rfl rfl fun b5 hb5 => ?_
  refine wp_norm [_, _, _] rfl ?_
  refine op_storeP 1 (v := .agg #[.slice _ _ _, .slice _ _ _, .slice _ _ _, .slice _ _ _]) (vs := [_, _, _, _]) (c' := [_, _, _, _]) rfl rfl rfl rfl rfl rfl rfl rfl rfl ?_
  refine wp_norm [_, _, _] rfl ?_
  refine op_storeP 2 (v := .agg #[.slice _ _ _, .slice _ _ _, .slice _ _ _]) (vs := [_, _, _]) (c' := [_, _, _]) rfl rfl rfl rfl rfl rfl rfl rfl rfl ?_
  refine wp_norm [_, _, _] rfl ?_
  refine xp_seq ?_
  refine xp_region rfl ?_
  refine op_pure (pv_move (v := .pointer _) rfl) ?_
  refine op_pure (pv_fieldAddr rfl rfl rfl rfl 0 rfl) ?_
  refine op_loadP 1 (v := .slice _ _ _) rfl rfl rfl rfl ?_
  refine op_pure (pv_len rfl rfl) ?_
  refine op_pure (pv_arith rfl (by omega)) ?_
  refine op_fnMM [] [_] [_, _] (vs := [.pointer _, .int .i64 _]) rfl rfl rfl ((Upto_ok b x2 (s.heats.length - 1) (by omega) h2)) ?_
  rintro _ g5 _ G5 ⟨y5, u', rfl, rfl, u1, u2⟩
  refine wp_norm [_, _, _] rfl ?_
  obtain ⟨u, rfl⟩ : ∃ u : Nat, u' = u := ⟨u'.toNat, by omega⟩
  have hu : u < s.heats.length := by omega
  refine op_pure (pv_assign (v := .int .i64 _) rfl) ?_
  refine xp_seq ?_
  refine xp_region rfl ?_
  refine op_pure (pv_fieldAddr rfl rfl rfl rfl 2 rfl) ?_
  refine op_loadP 1 (v := .slice _ _ _) rfl rfl rfl rfl ?_
  refine op_pure (pv_len rfl rfl) ?_
  refine op_pure (pv_build (zc := [_, _]) (vs := [(1, .int .i64 _)]) (cs := [_, _]) rfl rfl rfl rfl rfl rfl) ?_
  refine op_alloc (cs := [_, _]) rfl rfl fun b7 hb7 => ?_
  refine wp_norm [_, _, _, _] rfl ?_
  refine op_storeP 3 (v := .agg #[.int .i64 _, .int .i64 _]) (vs := [_, _]) (c' := [_, _]) rfl rfl rfl rfl rfl rfl rfl rfl rfl ?_
  refine wp_norm [_, _, _, _] rfl ?_
  obtain ⟨N, hN⟩ : ∃ N, N = s.joints.length := ⟨_, rfl⟩
  rw [← hN] at j3 hfl
  refine xp_seq ?_
  refine xp_seq ?_
  refine xp_region rfl ?_
  refine op_pure (pv_assign (v := .int .i64 _) rfl) ?_
  refine xp_block ?_
  refine xp_loopL [2, 8, 9, 10, 11, 12, 13, 14, 15, 16, 17, 18, 19, 20, 21, 22, 40, 41, 42, 43, 44, 45, 46, 47, 48, 49, 50, 51, 52, 53, 54, 55, 56, 57, 58, 59, 60, 61, 62, 63, 64, 65, 66, 67, 68, 69, 70, 71, 72, 73, 74, 75, 76, 77, 78, 79, 80, 81, 82, 83, 84, 85, 86, 87, 88, 89, 90, 91, 92, 93, 94, 95, 96, 97, 98, 99, 100, 101, 102, 103, 104, 105, 106, 107, 108, 109, 110, 111, 112, 113, 114, 115, 116, 117, 118, 119, 120, 121, 122, 123, 124, 125, 126, 127, 128, 129, 130, 131, 132, 133, 134, 135, 136, 137, 138, 139, 140, 141, 142, 143, 144, 145, 146, 147, 148, 149, 150, 151, 152, 153, 154, 155, 156, 157, 158, 159, 160, 161, 162, 163, 164, 165] 4 (α := LkA) (fun z => [(8, .int .i64 z.rd)]) (fun z L => ((L.set 0 (some (b, .cells #[.int .u64 (z.y : Int)] 56 (0, 0)))).set 1 (some (b4, .cells #[.slice z.X0 z.xs.heats.length z.k0, .slice z.X1 z.xs.damps.length z.k1, .slice z.X2 z.xs.joints.length z.k2, .slice z.X3 z.xs.reports.length z.k3] 29 (0, 0)))).set 3 (some (b7, .cells #[.int .i64 z.wm, .int .i64 z.wM] 36 (0, 0)))) (fun z h_z => (z.rd ≤ 2 ∧ z.xs.joints.length = N ∧ z.xs.heats.length = s.heats.length) ∧ (z.wm ≤ sumMn (cornS z.xs u N) ∧ sumMx (cornS z.xs u N) ≤ z.wM) ∧ SeasonR h_z z.X0 z.X1 z.X2 z.X3 z.xs ∧ SeasonT 4 3 (2 + z.rd) z.xs ht dt fs) (fun z => 2 - z.rd) (⟨0, y5, s, A0, A1, A2, A3, c0, c1, c2, c3, 0, s.joints.length⟩) ⟨rfl, trivial⟩ (rfl) (⟨⟨Nat.zero_le _, hN.symm, rfl⟩, ⟨(corn_sum s u N).1, by rw [← hN]; exact (corn_sum s u N).2.2⟩, RS.ext G5, T⟩) ?_
  rintro z T1 h_z E_z J_z
  refine goes_norm [_, _, _, _] rfl ?_
  obtain ⟨⟨J1, J2, J3⟩, ⟨J4, J5⟩, JR, JT⟩ := J_z
  obtain ⟨rd, y, xs, X0, X1, X2, X3, k0, k1, k2, k3, wm, wM⟩ := z
  dsimp only at J1 J2 J3 J4 J5 JR JT ⊢
  have CX : CheckS xs := SeasonT.checkS JT (by omega) (by omega) (by omega)
  have mayx : mayM xs = true := may_T JT (by omega)
  have hne : ∀ i, i < xs.joints.length → failsM xs i ≠ 0 := fun i hi => fails_ne JT (by omega) hi
  have hux : u < xs.heats.length := by omega
  refine xp_seq ?_
  refine xp_seq ?_
  refine xp_region rfl ?_
  refine op_pure (pv_move (v := .int .i64 _) rfl) ?_
  refine op_pure (pv_of (v := .bool _) rfl) ?_
  refine xp_cond rfl (fun hr => ?_) (fun hr => ?_)
  · skip
    have hr' : rd < 2 := by have := of_decide_eq_true hr; omega
    refine goes_more ?_
    refine goes_norm [_, _, _, _, _] rfl ?_
    refine xp_skip ?_
    refine xp_seq ?_
    refine xp_block ?_
    refine xp_seq ?_
    refine xp_region rfl ?_
    refine op_pure (pv_build (zc := [_, _, _, _, _]) (vs := [(0, .int .i64 _)]) (cs := [_, _, _, _, _]) rfl rfl rfl rfl rfl rfl) ?_
    refine op_alloc (cs := [_, _, _, _, _]) rfl rfl fun b9 hb9 => ?_
    refine wp_norm [_, _, _, _, _, _] rfl ?_
    refine op_storeP 5 (v := .agg #[.int .i64 _, .int .i64 _, .int .i64 _, .slice _ _ _, .slice _ _ _]) (vs := [_, _, _, _, _]) (c' := [_, _, _, _, _]) rfl rfl rfl rfl rfl rfl rfl rfl rfl ?_
    refine wp_norm [_, _, _, _, _, _] rfl ?_
    refine xp_seq ?_
    refine xp_region rfl ?_
    refine op_pure (pv_assign (v := .int .i64 _) rfl) ?_
    refine op_pure (pv_assign (v := .int .i64 _) rfl) ?_
    refine xp_seq ?_
    refine xp_seq ?_
    refine xp_region rfl ?_
    refine op_pure (pv_assign (v := .int .i64 _) rfl) ?_
    refine xp_block ?_
    refine xp_loopL [2, 10, 11, 12, 13, 14, 15, 45, 46, 47, 48, 49, 50, 51, 52, 53, 54, 55, 56, 57, 58, 59, 60, 61, 62, 63, 64, 65, 66, 67, 68, 69, 70, 71, 72, 73, 74, 75, 76, 77, 78, 79, 80, 81, 82, 83, 84, 85, 86, 87, 88] 6 (α := Nat × Acc) (fun ⟨i, a⟩ => [(12, .int .i64 i), (10, .int .i64 (sumMn (cornS xs u i))), (11, .int .i64 (sumMx (cornS xs u i)))]) (fun ⟨i, a⟩ L => (L.set 5 (some (b9, .cells #[.int .i64 20, .int .i64 0, .int .i64 0, .slice a.A a.n a.c, .slice none 0 0] 39 (0, 0)))).set 4 (a.p)) (fun ⟨i, a⟩ h_i => i ≤ N ∧ AccR 36 2 ((cornS xs u i).flatMap rgC) a) (fun ⟨i, a⟩ => N - i) ((0, acc0)) ⟨rfl, rfl, rfl, trivial⟩ (rfl) (⟨Nat.zero_le _, accR0⟩) ?_
    rintro ⟨i, a⟩ T2 h_i E_i J_i
    refine goes_norm [_, _, _, _, _, _] rfl ?_
    obtain ⟨K1, K2⟩ := J_i
    have cs := corn_sum xs u i
    have cl : ((cornS xs u i).flatMap rgC).length = i * 2 := by rw [flat_len (m := 2) (fun _ _ => rfl), cornS_len]
    refine xp_seq ?_
    refine xp_seq ?_
    refine xp_region rfl ?_
    refine op_pure (pv_move (v := .int .i64 _) rfl) ?_
    refine op_pure (pv_fieldAddr rfl rfl rfl rfl 2 rfl) ?_
    refine op_loadP 1 (v := .slice _ _ _) rfl rfl rfl rfl ?_
    refine op_pure (pv_len rfl rfl) ?_
    refine op_pure (pv_of (v := .bool _) rfl) ?_
    refine xp_cond rfl (fun hi => ?_) (fun hi => ?_)
    · skip
      have hil : i < N := by have := ltI hi; omega
      have hix : i < xs.joints.length := by omega
      obtain ⟨fo1, fo2⟩ := failed_of CX mayx hix hux
      have HD := Failed_ok xs (small_of CX) i u X0 X1 X2 X3 k0 k1 k2 k3 h_i (JR.ext E_i)
      rw [fo1, fo2] at HD
      rcases verdict_3 (decide (uptoM (failsM xs i) u ≠ 0)) (decide (failsM xs i ≠ uptoM (failsM xs i) u)) with hv | hv | hv
      · skip
        have hv2 : failedM xs i u = 1 := hv
        rw [hv2] at HD
        refine xp_skip ?_
        refine xp_seq ?_
        refine xp_block ?_
        refine xp_seq ?_
        refine xp_region rfl ?_
        refine op_loadPA 1 (vs := [.slice _ _ _, .slice _ _ _, .slice _ _ _, .slice _ _ _]) rfl rfl rfl rfl rfl ?_
        refine op_pure (pv_move (v := .int .i64 _) rfl) ?_
        refine op_pure (pv_move (v := .int .i64 _) rfl) ?_
        refine op_fn (caps := []) (vs := [.agg #[.slice _ _ _, .slice _ _ _, .slice _ _ _, .slice _ _ _], .int .i64 _, .int .i64 _]) rfl rfl rfl (HD) ?_
        rintro _ q1 Q1 rfl
        refine op_pure (pv_move (v := .tuple #[.int .i64 _, .int .i64 _]) rfl) ?_
        refine op_pure (pv_of (v := .int .i64 _) rfl) ?_
        refine op_pure (pv_of (v := .int .i64 _) rfl) ?_
        refine op_pure (pv_assign (v := .int .i64 _) rfl) ?_
        refine op_pure (pv_assign (v := .int .i64 _) rfl) ?_
        refine xp_seq ?_
        refine xp_seq ?_
        refine xp_region rfl ?_
        refine op_pure (pv_move (v := .int .i64 _) rfl) ?_
        refine op_pure (pv_of (v := .bool _) rfl) ?_
        refine op_pure (pv_move (v := .bool _) rfl) ?_
        refine guard_yes rfl rfl ?_
        refine op_pure (pv_move (v := .int .i64 _) rfl) ?_
        refine guard_yes rfl rfl ?_
        refine op_pure (pv_of (v := .bool _) rfl) ?_
        refine guard_yes rfl rfl ?_
        refine op_pure (pv_move (v := .bool _) rfl) ?_
        refine guard_no rfl rfl ?_
        refine guard_no rfl rfl ?_
        refine guard_yes rfl rfl ?_
        refine op_pure (pv_pickF rfl rfl (v := .bool _) rfl) ?_
        refine guard_yes rfl rfl ?_
        refine op_pure (pv_move (v := .bool _) rfl) ?_
        refine guard_no rfl rfl ?_
        refine guard_no rfl rfl ?_
        refine guard_yes rfl rfl ?_
        refine op_pure (pv_pickF rfl rfl (v := .bool _) rfl) ?_
        refine op_pure (pv_pickF rfl rfl (v := .bool _) rfl) ?_
        refine xp_condF rfl (rfl) ?_
        refine xp_skip ?_
        refine xp_seq ?_
        refine xp_region rfl ?_
        refine op_alloc (cs := [_, _]) rfl rfl fun b15 hb15 => ?_
        refine wp_norm [_, _, _, _, _, _, _] rfl ?_
        refine xp_seq ?_
        refine xp_seq ?_
        refine xp_region rfl ?_
        refine op_pure (pv_move (v := .int .i64 _) rfl) ?_
        refine op_pure (pv_of (v := .bool _) rfl) ?_
        refine xp_condT rfl (rfl) ?_
        refine xp_seq ?_
        refine xp_region rfl ?_
        refine op_pure (pv_fieldAddr rfl rfl rfl rfl 0 rfl) ?_
        refine op_storeP 6 (v := .int .i64 _) (vs := [_]) (c' := [_, _]) rfl rfl rfl rfl rfl rfl rfl rfl rfl ?_
        refine wp_norm [_, _, _, _, _, _, _] rfl ?_
        refine xp_region rfl ?_
        refine op_pure (pv_move (v := .int .i64 _) rfl) ?_
        refine op_pure (pv_arith rfl (by omega)) ?_
        refine op_pure (pv_assign (v := .int .i64 _) rfl) ?_
        refine xp_seq ?_
        refine xp_seq ?_
        refine xp_region rfl ?_
        refine op_pure (pv_move (v := .int .i64 _) rfl) ?_
        refine op_pure (pv_of (v := .bool _) rfl) ?_
        refine xp_condT rfl (rfl) ?_
        refine xp_seq ?_
        refine xp_region rfl ?_
        refine op_pure (pv_fieldAddr rfl rfl rfl rfl 1 rfl) ?_
        refine op_storeP 6 (v := .int .i64 _) (vs := [_]) (c' := [_, _]) rfl rfl rfl rfl rfl rfl rfl rfl rfl ?_
        refine wp_norm [_, _, _, _, _, _, _] rfl ?_
        refine xp_region rfl ?_
        refine op_pure (pv_move (v := .int .i64 _) rfl) ?_
        refine op_pure (pv_arith rfl (by omega)) ?_
        refine op_pure (pv_assign (v := .int .i64 _) rfl) ?_
        refine xp_region rfl ?_
        refine op_pure (pv_fieldAddr rfl rfl rfl rfl 3 rfl) ?_
        refine op_loadP 5 (v := .slice _ _ _) rfl rfl rfl rfl ?_
        refine op_loadPA 6 (vs := [.int .i64 _, .int .i64 _]) rfl rfl rfl rfl rfl ?_
        refine op_buildSlice (zc := [_, _]) (vs := [(0, .agg #[.int .i64 _, .int .i64 _])]) (cs := [_, _]) rfl rfl rfl rfl rfl rfl rfl fun b86 hb86 => ?_
        refine wp_norm [_, _, _, _, _, _, _, _] rfl ?_
        refine op_appendR 4 K2 rfl rfl rfl (fun V => rdP V (i := 7) rfl) rfl rfl rfl rfl rfl rfl rfl rfl rfl (by omega) rfl (by rw [cl]; simp; omega) fun a2 h3a E3a ha2 => ?_
        refine wp_norm [_, _, _, _, _, _, _, _] rfl ?_
        refine op_pure (pv_fieldAddr rfl rfl rfl rfl 3 rfl) ?_
        refine op_storeP 5 (v := .slice _ _ _) (vs := [_]) (c' := [_, _, _, _, _]) rfl rfl rfl rfl rfl rfl rfl rfl rfl ?_
        refine wp_norm [_, _, _, _, _, _, _, _] rfl ?_
        refine xp_region rfl ?_
        refine op_pure (pv_move (v := .int .i64 _) rfl) ?_
        refine op_pure (pv_arith rfl (by omega)) ?_
        refine op_pure (pv_assign (v := .int .i64 _) rfl) ?_
        have e1 : (cornR xs u i) = ⟨1, 1⟩ := by unfold cornR; rw [hv2]; rfl
        refine ⟨(i + 1, a2), ⟨rfl, intE (by rw [cornS_succ, sumMn_snoc, e1]), intE (by rw [cornS_succ, sumMx_snoc, e1]), trivial⟩, rfl, rfl, (Ext.trans (Ext.trans E_i Q1) E3a), fun h3 E3 => ⟨hil, by rw [cornS_succ, List.flatMap_append, e1]; exact ha2⟩, by first | omega | (dsimp only; omega), ?_⟩
        repeat (first | exact off_base _ _ _ | refine off_upd (by decide) ?_ | refine off_updL rfl ?_ | refine off_mix rfl ?_)
      · skip
        have hv2 : failedM xs i u = 2 := hv
        rw [hv2] at HD
        refine xp_skip ?_
        refine xp_seq ?_
        refine xp_block ?_
        refine xp_seq ?_
        refine xp_region rfl ?_
        refine op_loadPA 1 (vs := [.slice _ _ _, .slice _ _ _, .slice _ _ _, .slice _ _ _]) rfl rfl rfl rfl rfl ?_
        refine op_pure (pv_move (v := .int .i64 _) rfl) ?_
        refine op_pure (pv_move (v := .int .i64 _) rfl) ?_
        refine op_fn (caps := []) (vs := [.agg #[.slice _ _ _, .slice _ _ _, .slice _ _ _, .slice _ _ _], .int .i64 _, .int .i64 _]) rfl rfl rfl (HD) ?_
        rintro _ q1 Q1 rfl
        refine op_pure (pv_move (v := .tuple #[.int .i64 _, .int .i64 _]) rfl) ?_
        refine op_pure (pv_of (v := .int .i64 _) rfl) ?_
        refine op_pure (pv_of (v := .int .i64 _) rfl) ?_
        refine op_pure (pv_assign (v := .int .i64 _) rfl) ?_
        refine op_pure (pv_assign (v := .int .i64 _) rfl) ?_
        refine xp_seq ?_
        refine xp_seq ?_
        refine xp_region rfl ?_
        refine op_pure (pv_move (v := .int .i64 _) rfl) ?_
        refine op_pure (pv_of (v := .bool _) rfl) ?_
        refine op_pure (pv_move (v := .bool _) rfl) ?_
        refine guard_yes rfl rfl ?_
        refine op_pure (pv_move (v := .int .i64 _) rfl) ?_
        refine guard_yes rfl rfl ?_
        refine op_pure (pv_of (v := .bool _) rfl) ?_
        refine guard_yes rfl rfl ?_
        refine op_pure (pv_move (v := .bool _) rfl) ?_
        refine guard_yes rfl rfl ?_
        refine op_pure (pv_move (v := .int .i64 _) rfl) ?_
        refine guard_yes rfl rfl ?_
        refine op_pure (pv_of (v := .bool _) rfl) ?_
        refine guard_yes rfl rfl ?_
        refine op_pure (pv_pickT rfl rfl (v := .bool _) rfl) ?_
        refine guard_yes rfl rfl ?_
        refine op_pure (pv_move (v := .bool _) rfl) ?_
        refine guard_no rfl rfl ?_
        refine guard_no rfl rfl ?_
        refine guard_yes rfl rfl ?_
        refine op_pure (pv_pickF rfl rfl (v := .bool _) rfl) ?_
        refine op_pure (pv_pickF rfl rfl (v := .bool _) rfl) ?_
        refine xp_condF rfl (rfl) ?_
        refine xp_skip ?_
        refine xp_seq ?_
        refine xp_region rfl ?_
        refine op_alloc (cs := [_, _]) rfl rfl fun b15_1 hb15_1 => ?_
        refine wp_norm [_, _, _, _, _, _, _] rfl ?_
        refine xp_seq ?_
        refine xp_seq ?_
        refine xp_region rfl ?_
        refine op_pure (pv_move (v := .int .i64 _) rfl) ?_
        refine op_pure (pv_of (v := .bool _) rfl) ?_
        refine xp_condF rfl (rfl) ?_
        refine xp_skip ?_
        refine xp_seq ?_
        refine xp_seq ?_
        refine xp_region rfl ?_
        refine op_pure (pv_move (v := .int .i64 _) rfl) ?_
        refine op_pure (pv_of (v := .bool _) rfl) ?_
        refine xp_condF rfl (rfl) ?_
        refine xp_skip ?_
        refine xp_region rfl ?_
        refine op_pure (pv_fieldAddr rfl rfl rfl rfl 3 rfl) ?_
        refine op_loadP 5 (v := .slice _ _ _) rfl rfl rfl rfl ?_
        refine op_loadPA 6 (vs := [.int .i64 _, .int .i64 _]) rfl rfl rfl rfl rfl ?_
        refine op_buildSlice (zc := [_, _]) (vs := [(0, .agg #[.int .i64 _, .int .i64 _])]) (cs := [_, _]) rfl rfl rfl rfl rfl rfl rfl fun b86_1 hb86_1 => ?_
        refine wp_norm [_, _, _, _, _, _, _, _] rfl ?_
        refine op_appendR 4 K2 rfl rfl rfl (fun V => rdP V (i := 7) rfl) rfl rfl rfl rfl rfl rfl rfl rfl rfl (by omega) rfl (by rw [cl]; simp; omega) fun a2 h4a E4a ha2 => ?_
        refine wp_norm [_, _, _, _, _, _, _, _] rfl ?_
        refine op_pure (pv_fieldAddr rfl rfl rfl rfl 3 rfl) ?_
        refine op_storeP 5 (v := .slice _ _ _) (vs := [_]) (c' := [_, _, _, _, _]) rfl rfl rfl rfl rfl rfl rfl rfl rfl ?_
        refine wp_norm [_, _, _, _, _, _, _, _] rfl ?_
        refine xp_region rfl ?_
        refine op_pure (pv_move (v := .int .i64 _) rfl) ?_
        refine op_pure (pv_arith rfl (by omega)) ?_
        refine op_pure (pv_assign (v := .int .i64 _) rfl) ?_
        have e1 : (cornR xs u i) = ⟨0, 0⟩ := by unfold cornR; rw [hv2]; rfl
        refine ⟨(i + 1, a2), ⟨rfl, intE (by rw [cornS_succ, sumMn_snoc, e1]; simp), intE (by rw [cornS_succ, sumMx_snoc, e1]; simp), trivial⟩, rfl, rfl, (Ext.trans (Ext.trans E_i Q1) E4a), fun h3 E3 => ⟨hil, by rw [cornS_succ, List.flatMap_append, e1]; exact ha2⟩, by first | omega | (dsimp only; omega), ?_⟩
        repeat (first | exact off_base _ _ _ | refine off_upd (by decide) ?_ | refine off_updL rfl ?_ | refine off_mix rfl ?_)
      · skip
        have hv2 : failedM xs i u = 3 := hv
        rw [hv2] at HD
        refine xp_skip ?_
        refine xp_seq ?_
        refine xp_block ?_
        refine xp_seq ?_
        refine xp_region rfl ?_
        refine op_loadPA 1 (vs := [.slice _ _ _, .slice _ _ _, .slice _ _ _, .slice _ _ _]) rfl rfl rfl rfl rfl ?_
        refine op_pure (pv_move (v := .int .i64 _) rfl) ?_
        refine op_pure (pv_move (v := .int .i64 _) rfl) ?_
        refine op_fn (caps := []) (vs := [.agg #[.slice _ _ _, .slice _ _ _, .slice _ _ _, .slice _ _ _], .int .i64 _, .int .i64 _]) rfl rfl rfl (HD) ?_
        rintro _ q1 Q1 rfl
        refine op_pure (pv_move (v := .tuple #[.int .i64 _, .int .i64 _]) rfl) ?_
        refine op_pure (pv_of (v := .int .i64 _) rfl) ?_
        refine op_pure (pv_of (v := .int .i64 _) rfl) ?_
        refine op_pure (pv_assign (v := .int .i64 _) rfl) ?_
        refine op_pure (pv_assign (v := .int .i64 _) rfl) ?_
        refine xp_seq ?_
        refine xp_seq ?_
        refine xp_region rfl ?_
        refine op_pure (pv_move (v := .int .i64 _) rfl) ?_
        refine op_pure (pv_of (v := .bool _) rfl) ?_
        refine op_pure (pv_move (v := .bool _) rfl) ?_
        refine guard_yes rfl rfl ?_
        refine op_pure (pv_move (v := .int .i64 _) rfl) ?_
        refine guard_yes rfl rfl ?_
        refine op_pure (pv_of (v := .bool _) rfl) ?_
        refine guard_yes rfl rfl ?_
        refine op_pure (pv_move (v := .bool _) rfl) ?_
        refine guard_yes rfl rfl ?_
        refine op_pure (pv_move (v := .int .i64 _) rfl) ?_
        refine guard_yes rfl rfl ?_
        refine op_pure (pv_of (v := .bool _) rfl) ?_
        refine guard_yes rfl rfl ?_
        refine op_pure (pv_pickT rfl rfl (v := .bool _) rfl) ?_
        refine guard_yes rfl rfl ?_
        refine op_pure (pv_move (v := .bool _) rfl) ?_
        refine guard_yes rfl rfl ?_
        refine op_pure (pv_move (v := .int .i64 _) rfl) ?_
        refine guard_yes rfl rfl ?_
        refine op_pure (pv_of (v := .bool _) rfl) ?_
        refine guard_yes rfl rfl ?_
        refine op_pure (pv_pickT rfl rfl (v := .bool _) rfl) ?_
        refine op_pure (pv_pickF rfl rfl (v := .bool _) rfl) ?_
        refine xp_condF rfl (rfl) ?_
        refine xp_skip ?_
        refine xp_seq ?_
        refine xp_region rfl ?_
        refine op_alloc (cs := [_, _]) rfl rfl fun b15_2 hb15_2 => ?_
        refine wp_norm [_, _, _, _, _, _, _] rfl ?_
        refine xp_seq ?_
        refine xp_seq ?_
        refine xp_region rfl ?_
        refine op_pure (pv_move (v := .int .i64 _) rfl) ?_
        refine op_pure (pv_of (v := .bool _) rfl) ?_
        refine xp_condF rfl (rfl) ?_
        refine xp_skip ?_
        refine xp_seq ?_
        refine xp_seq ?_
        refine xp_region rfl ?_
        refine op_pure (pv_move (v := .int .i64 _) rfl) ?_
        refine op_pure (pv_of (v := .bool _) rfl) ?_
        refine xp_condT rfl (rfl) ?_
        refine xp_seq ?_
        refine xp_region rfl ?_
        refine op_pure (pv_fieldAddr rfl rfl rfl rfl 1 rfl) ?_
        refine op_storeP 6 (v := .int .i64 _) (vs := [_]) (c' := [_, _]) rfl rfl rfl rfl rfl rfl rfl rfl rfl ?_
        refine wp_norm [_, _, _, _, _, _, _] rfl ?_
        refine xp_region rfl ?_
        refine op_pure (pv_move (v := .int .i64 _) rfl) ?_
        refine op_pure (pv_arith rfl (by omega)) ?_
        refine op_pure (pv_assign (v := .int .i64 _) rfl) ?_
        refine xp_region rfl ?_
        refine op_pure (pv_fieldAddr rfl rfl rfl rfl 3 rfl) ?_
        refine op_loadP 5 (v := .slice _ _ _) rfl rfl rfl rfl ?_
        refine op_loadPA 6 (vs := [.int .i64 _, .int .i64 _]) rfl rfl rfl rfl rfl ?_
        refine op_buildSlice (zc := [_, _]) (vs := [(0, .agg #[.int .i64 _, .int .i64 _])]) (cs := [_, _]) rfl rfl rfl rfl rfl rfl rfl fun b86_2 hb86_2 => ?_
        refine wp_norm [_, _, _, _, _, _, _, _] rfl ?_
        refine op_appendR 4 K2 rfl rfl rfl (fun V => rdP V (i := 7) rfl) rfl rfl rfl rfl rfl rfl rfl rfl rfl (by omega) rfl (by rw [cl]; simp; omega) fun a2 h5a E5a ha2 => ?_
        refine wp_norm [_, _, _, _, _, _, _, _] rfl ?_
        refine op_pure (pv_fieldAddr rfl rfl rfl rfl 3 rfl) ?_
        refine op_storeP 5 (v := .slice _ _ _) (vs := [_]) (c' := [_, _, _, _, _]) rfl rfl rfl rfl rfl rfl rfl rfl rfl ?_
        refine wp_norm [_, _, _, _, _, _, _, _] rfl ?_
        refine xp_region rfl ?_
        refine op_pure (pv_move (v := .int .i64 _) rfl) ?_
        refine op_pure (pv_arith rfl (by omega)) ?_
        refine op_pure (pv_assign (v := .int .i64 _) rfl) ?_
        have e1 : (cornR xs u i) = ⟨0, 1⟩ := by unfold cornR; rw [hv2]; rfl
        refine ⟨(i + 1, a2), ⟨rfl, intE (by rw [cornS_succ, sumMn_snoc, e1]; simp), intE (by rw [cornS_succ, sumMx_snoc, e1]), trivial⟩, rfl, rfl, (Ext.trans (Ext.trans E_i Q1) E5a), fun h3 E3 => ⟨hil, by rw [cornS_succ, List.flatMap_append, e1]; exact ha2⟩, by first | omega | (dsimp only; omega), ?_⟩
        repeat (first | exact off_base _ _ _ | refine off_upd (by decide) ?_ | refine off_updL rfl ?_ | refine off_mix rfl ?_)
    · skip
      have hie : i = N := by have := geI hi; omega
      subst hie
      have hn := K2.len
      rw [cl] at hn
      obtain ⟨ap, aA, an, ac⟩ := a
      dsimp only at hn K2 ⊢
      obtain rfl : an = i := by omega
      have HL := fun h => Leak_sum rfl ⟨20, ⟨0, 0⟩, cornS xs u an⟩ (corn_B u an (by omega)) aA none ac 0 h
      unfold belV rgV at HL
      dsimp only at HL
      rw [cornS_len] at HL
      obtain ⟨so1, so2⟩ := sound_of CX mayx hux
      have sc := sound_corn hne (by omega) u
      rw [J2] at sc
      obtain ⟨m0, hm0⟩ : ∃ m0, m0 = sumMn (cornS xs u an) := ⟨_, rfl⟩
      obtain ⟨m1, hm1⟩ : ∃ m1, m1 = sumMx (cornS xs u an) := ⟨_, rfl⟩
      rw [← hm0, ← hm1] at cs HL sc
      rw [← hm0] at J4
      rw [← hm1] at J5
      rw [← hm0, ← hm1]
      obtain ⟨slo, hslo⟩ : ∃ q, q = soundLo xs u (allFates xs) := ⟨_, rfl⟩
      obtain ⟨shi, hshi⟩ : ∃ q, q = soundHi xs u (allFates xs) := ⟨_, rfl⟩
      rw [← hslo, ← hshi] at so2 sc
      refine xp_exit ?_
      refine goes_pubO 4 rfl ?_
      intro gO GO PO
      refine goes_norm [_, _, _, _, _, _] rfl ?_
      have RO : Row gO 2 rgC aA (cornS xs u an) := ⟨fun _ _ => rfl, K2.rd PO⟩
      refine goes_norm [_, _, _, _, _, _] rfl ?_
      refine xp_seq ?_
      refine xp_region rfl ?_
      refine op_loadPA 5 (vs := [.int .i64 _, .int .i64 _, .int .i64 _, .slice _ _ _, .slice _ _ _]) rfl rfl rfl rfl rfl ?_
      refine op_fn (caps := []) (vs := [.agg #[.int .i64 _, .int .i64 _, .int .i64 _, .slice _ _ _, .slice _ _ _]]) rfl rfl rfl ((HL gO (RO.ext (Ext.refl _)))) ?_
      rintro _ f1 F1 rfl
      refine op_pure (pv_move (v := .tuple #[.agg #[.int .i64 _, .int .i64 _], .int .i64 _]) rfl) ?_
      refine op_pure (pv_of (v := .agg #[.int .i64 _, .int .i64 _]) rfl) ?_
      refine op_pure (pv_of (v := .int .i64 _) rfl) ?_
      refine op_alloc (cs := [_, _]) rfl rfl fun b16 hb16 => ?_
      refine wp_norm [_, _, _, _, _, _, _] rfl ?_
      refine op_storeP 6 (v := .agg #[.int .i64 _, .int .i64 _]) (vs := [_, _]) (c' := [_, _]) rfl rfl rfl rfl rfl rfl rfl rfl rfl ?_
      refine wp_norm [_, _, _, _, _, _, _] rfl ?_
      refine op_pure (pv_assign (v := .int .i64 _) rfl) ?_
      refine xp_seq ?_
      refine xp_region rfl ?_
      refine op_loadPA 1 (vs := [.slice _ _ _, .slice _ _ _, .slice _ _ _, .slice _ _ _]) rfl rfl rfl rfl rfl ?_
      refine op_pure (pv_move (v := .int .i64 _) rfl) ?_
      have HS := Sound_ok xs (small_of CX) u X0 X1 X2 X3 k0 k1 k2 k3 f1 (JR.ext (Ext.trans (Ext.trans E_i GO) F1))
      rw [so1, so2] at HS
      unfold rgV at HS
      dsimp only at HS
      refine op_fn (caps := []) (vs := [.agg #[.slice _ _ _, .slice _ _ _, .slice _ _ _, .slice _ _ _], .int .i64 _]) rfl rfl rfl (HS) ?_
      rintro _ f2 F2 rfl
      refine op_pure (pv_move (v := .tuple #[.agg #[.int .i64 _, .int .i64 _], .int .i64 _]) rfl) ?_
      refine op_pure (pv_of (v := .agg #[.int .i64 _, .int .i64 _]) rfl) ?_
      refine op_pure (pv_of (v := .int .i64 _) rfl) ?_
      refine op_alloc (cs := [_, _]) rfl rfl fun b18 hb18 => ?_
      refine wp_norm [_, _, _, _, _, _, _, _] rfl ?_
      refine op_storeP 7 (v := .agg #[.int .i64 _, .int .i64 _]) (vs := [_, _]) (c' := [_, _]) rfl rfl rfl rfl rfl rfl rfl rfl rfl ?_
      refine wp_norm [_, _, _, _, _, _, _, _] rfl ?_
      refine op_pure (pv_assign (v := .int .i64 _) rfl) ?_
      refine xp_seq ?_
      refine xp_region rfl ?_
      refine op_pure (pv_fieldAddr rfl rfl rfl rfl 2 rfl) ?_
      refine op_loadP 1 (v := .slice _ _ _) rfl rfl rfl rfl ?_
      refine op_pure (pv_len rfl rfl) ?_
      refine op_pure (pv_assign (v := .int .i64 _) rfl) ?_
      refine xp_seq ?_
      refine xp_seq ?_
      refine xp_region rfl ?_
      refine op_pure (pv_move (v := .int .i64 _) rfl) ?_
      refine op_pure (pv_of (v := .bool _) rfl) ?_
      refine op_pure (pv_move (v := .bool _) rfl) ?_
      refine guard_yes rfl rfl ?_
      refine op_pure (pv_move (v := .int .i64 _) rfl) ?_
      refine guard_yes rfl rfl ?_
      refine op_pure (pv_of (v := .bool _) rfl) ?_
      refine op_pure (pv_pickF rfl rfl (v := .bool _) rfl) ?_
      refine op_pure (pv_move (v := .bool _) rfl) ?_
      refine guard_yes rfl rfl ?_
      refine op_loadPA 6 (vs := [.int .i64 _, .int .i64 _]) rfl rfl rfl rfl rfl ?_
      refine guard_yes rfl rfl ?_
      refine op_pure (pv_move (v := .int .i64 _) rfl) ?_
      refine guard_yes rfl rfl ?_
      refine op_pure (pv_move (v := .int .i64 _) rfl) ?_
      refine guard_yes rfl rfl ?_
      refine op_pure (pv_build (zc := [_, _]) (vs := [(0, .int .i64 _), (1, .int .i64 _)]) (cs := [_, _]) rfl rfl rfl rfl rfl rfl) ?_
      refine guard_yes rfl rfl ?_
      refine op_pure (pv_neA rfl rfl (by kernel_rfl) (rgSelf ⟨m0, m1⟩)) ?_
      refine op_pure (pv_pickF rfl rfl (v := .bool _) rfl) ?_
      refine op_pure (pv_move (v := .bool _) rfl) ?_
      refine guard_yes rfl rfl ?_
      refine op_pure (pv_move (v := .int .i64 _) rfl) ?_
      refine guard_yes rfl rfl ?_
      refine op_pure (pv_fieldAddr rfl rfl rfl rfl 1 rfl) ?_
      refine guard_yes rfl rfl ?_
      refine op_loadP 6 (v := .int .i64 _) rfl rfl rfl rfl ?_
      refine guard_yes rfl rfl ?_
      refine op_pure (pv_arith rfl (by omega)) ?_
      refine guard_yes rfl rfl ?_
      refine op_pure (pv_move (v := .int .i64 _) rfl) ?_
      refine guard_yes rfl rfl ?_
      refine op_pure (pv_fieldAddr rfl rfl rfl rfl 0 rfl) ?_
      refine guard_yes rfl rfl ?_
      refine op_loadP 6 (v := .int .i64 _) rfl rfl rfl rfl ?_
      refine guard_yes rfl rfl ?_
      refine op_pure (pv_arith rfl (by omega)) ?_
      refine guard_yes rfl rfl ?_
      refine op_pure (pv_build (zc := [_, _]) (vs := [(0, .int .i64 _), (1, .int .i64 _)]) (cs := [_, _]) rfl rfl rfl rfl rfl rfl) ?_
      refine guard_yes rfl rfl ?_
      refine op_loadPA 7 (vs := [.int .i64 _, .int .i64 _]) rfl rfl rfl rfl rfl ?_
      refine guard_yes rfl rfl ?_
      have HW := Wider_ok ⟨(xs.joints.length : Int) - m1, (xs.joints.length : Int) - m0⟩ ⟨(slo : Int), (shi : Int)⟩ f2
      unfold rgV at HW
      dsimp only at HW
      rw [show (decide ((xs.joints.length : Int) - m1 ≤ (slo : Int)) && decide ((shi : Int) ≤ (xs.joints.length : Int) - m0)) = true from by rw [Bool.and_eq_true, decide_eq_true_eq, decide_eq_true_eq]; omega] at HW
      refine op_fn (caps := []) (vs := [.agg #[.int .i64 _, .int .i64 _], .agg #[.int .i64 _, .int .i64 _]]) rfl rfl rfl (HW) ?_
      rintro _ f3 F3 rfl
      refine guard_yes rfl rfl ?_
      refine op_pure (pv_of (v := .bool _) rfl) ?_
      refine op_pure (pv_pickF rfl rfl (v := .bool _) rfl) ?_
      refine op_pure (pv_move (v := .bool _) rfl) ?_
      refine guard_yes rfl rfl ?_
      refine op_loadPA 3 (vs := [.int .i64 _, .int .i64 _]) rfl rfl rfl rfl rfl ?_
      refine guard_yes rfl rfl ?_
      refine op_loadPA 6 (vs := [.int .i64 _, .int .i64 _]) rfl rfl rfl rfl rfl ?_
      refine guard_yes rfl rfl ?_
      have HX := Wider_ok ⟨wm, wM⟩ ⟨m0, m1⟩ f3
      unfold rgV at HX
      dsimp only at HX
      rw [show (decide (wm ≤ m0) && decide (m1 ≤ wM)) = true from by rw [Bool.and_eq_true, decide_eq_true_eq, decide_eq_true_eq]; omega] at HX
      refine op_fn (caps := []) (vs := [.agg #[.int .i64 _, .int .i64 _], .agg #[.int .i64 _, .int .i64 _]]) rfl rfl rfl (HX) ?_
      rintro _ f4 F4 rfl
      refine guard_yes rfl rfl ?_
      refine op_pure (pv_of (v := .bool _) rfl) ?_
      refine op_pure (pv_pickF rfl rfl (v := .bool _) rfl) ?_
      refine xp_condF rfl (rfl) ?_
      refine xp_skip ?_
      refine xp_seq ?_
      refine xp_region rfl ?_
      refine op_loadPA 6 (vs := [.int .i64 _, .int .i64 _]) rfl rfl rfl rfl rfl ?_
      refine op_storeP 3 (v := .agg #[.int .i64 _, .int .i64 _]) (vs := [_, _]) (c' := [_, _]) rfl rfl rfl rfl rfl rfl rfl rfl rfl ?_
      refine wp_norm [_, _, _, _, _, _, _, _] rfl ?_
      refine xp_seq ?_
      refine xp_seq ?_
      refine xp_region rfl ?_
      refine op_pure (pv_move (v := .int .i64 _) rfl) ?_
      refine op_pure (pv_of (v := .bool _) rfl) ?_
      refine xp_cond rfl (fun hz => ?_) (fun hz => ?_)
      · skip
        refine xp_exit ?_
        refine xp_seq ?_
        refine xp_region rfl ?_
        refine op_fn (caps := []) (vs := []) rfl rfl rfl (leakyAwake_ok rfl f4) ?_
        rintro _ f5 F5 rfl
        refine op_pure (pv_assign (v := .bool _) rfl) ?_
        refine xp_ret ?_
        exact ⟨rfl, fun V => (Ext.trans (Ext.trans (Ext.trans (Ext.trans (Ext.trans (Ext.trans (Ext.trans (Ext.trans (Ext.trans (Ext.trans (Ext.trans E1 E2) G5) E_z) E_i) GO) F1) F2) F3) F4) F5) (ext_wl V)), rfl⟩
      · skip
        have hz' : 0 < an := by have := of_decide_eq_false hz; omega
        refine xp_skip ?_
        refine xp_seq ?_
        refine xp_dw [true] rfl rfl rfl ?_
        refine dw_load (i := 0) rfl (by decide +kernel) ?_
        refine op_loadPA 1 (vs := [.slice _ _ _, .slice _ _ _, .slice _ _ _, .slice _ _ _]) rfl rfl rfl rfl rfl ?_
        refine dw_pure (i := 1) rfl (by decide +kernel) (pv_move (v := .pointer _) rfl) ?_
        refine dw_load (i := 2) rfl (by decide +kernel) ?_
        refine op_loadPA 2 (vs := [.slice _ _ _, .slice _ _ _, .slice _ _ _]) rfl rfl rfl rfl rfl ?_
        refine dw_eff (i := 3) rfl (by decide +kernel) ?_
        refine op_fnMM [] [_] [_, _, _, _, _, _, _] (vs := [.pointer _, .agg #[.slice _ _ _, .slice _ _ _, .slice _ _ _]]) rfl rfl rfl ((SeenOf_ok b y ht.length dt.length (by omega) (by omega) fs (by omega) (by omega) HA DA FA hc dc fc f4 (R3.ext (Ext.trans (Ext.trans (Ext.trans (Ext.trans (Ext.trans (Ext.trans (Ext.trans G5 E_z) E_i) GO) F1) F2) F3) F4)))) ?_
        rintro _ q5 _ Q5 ⟨y6, sr, rfl, rfl, sr1⟩
        refine ⟨ext_wlm Q5 _, ?_⟩
        refine dw_norm [_, _, _, _, _, _, _, _] rfl ?_
        obtain ⟨T2, B2'⟩ := with_T JT (x := xs) (s := xs) ⟨rfl, rfl, rfl, fun i q r h1 h2 => (by rw [h1] at h2; cases h2; exact ⟨Int.le_refl _, Int.le_refl _⟩), fun i q r h1 h2 => (by rw [h1] at h2; cases h2; exact ⟨Int.le_refl _, Int.le_refl _⟩), fun r hr => hr⟩ sr1
        have C2 : CheckS (withS xs sr) := SeasonT.checkS T2 (by omega) (by omega) (by omega)
        have rl1 := JT.rl
        have wf := withL_fine CX (r := sr) (by omega) (C2.r sr (List.mem_append_right _ (List.mem_singleton.2 rfl)) |> fun q => checkSeen_iff.2 (checkSeen_iff.1 q)) (may_T T2 (by omega))
        have hne2 : ∀ i, i < (withS xs sr).joints.length → failsM (withS xs sr) i ≠ 0 := fun i hi => fails_ne T2 (by omega) hi
        have cb := corn_better (x := withS xs sr) (s := xs) (fun i v hb => B2'.fails C2 CX hb) u an (fun i hi => hne2 i (by show i < xs.joints.length; omega)) (fun i hi => hne i (by omega))
        rw [← hm0, ← hm1] at cb
        have HY := With_ok xs (small_of CX) sr X0 X1 X2 X3 k0 k1 k2 k3 q5 (JR.ext (Ext.trans (Ext.trans (Ext.trans (Ext.trans (Ext.trans (Ext.trans E_i GO) F1) F2) F3) F4) Q5))
        rw [wf.1, wf.2] at HY
        refine dw_last (i := 4) rfl (by decide +kernel) (by decide +kernel) ?_
        refine op_fn (caps := []) (vs := [.agg #[.slice _ _ _, .slice _ _ _, .slice _ _ _, .slice _ _ _], .agg #[.int .i64 _, .int .i64 _, .bool _]]) rfl rfl rfl (HY) ?_
        rintro _ q6 Q6 ⟨_, rfl, Y0, Y1, Y2, Y3, y0, y1, y2, y3, rfl, RY⟩
        have wj : (withS xs sr).joints.length = xs.joints.length := rfl
        have wh : (withS xs sr).heats.length = xs.heats.length := rfl
        have e9 : (!decide (((withS xs sr).joints.length : Int) = (xs.joints.length : Int))) = false := by rw [decide_eq_true (by omega)]; rfl
        have e16 : (!decide (((withS xs sr).heats.length : Int) = (xs.heats.length : Int))) = false := by rw [decide_eq_true (by omega)]; rfl
        refine dw_pure (i := 5) rfl (by decide +kernel) (pv_move (v := .tuple #[.agg #[.slice _ _ _, .slice _ _ _, .slice _ _ _, .slice _ _ _], .int .i64 _]) rfl) ?_
        refine dw_pure (i := 6) rfl (by decide +kernel) (pv_of (v := .agg #[.slice _ _ _, .slice _ _ _, .slice _ _ _, .slice _ _ _]) rfl) ?_
        refine dw_pure (i := 7) rfl (by decide +kernel) (pv_of (v := .int .i64 _) rfl) ?_
        refine dw_eff (i := 8) rfl (by decide +kernel) ?_
        refine op_alloc (cs := [_, _, _, _]) rfl rfl fun b21 hb21 => ?_
        refine ⟨ext_newM hb21 _, ?_⟩
        refine dw_norm [_, _, _, _, _, _, _, _, _] rfl ?_
        refine dw_last (i := 9) rfl (by decide +kernel) (by decide +kernel) ?_
        refine op_storeP 8 (v := .agg #[.slice _ _ _, .slice _ _ _, .slice _ _ _, .slice _ _ _]) (vs := [_, _, _, _]) (c' := [_, _, _, _]) rfl rfl rfl rfl rfl rfl rfl rfl rfl ?_
        refine dw_norm [_, _, _, _, _, _, _, _, _] rfl ?_
        refine dw_pure (i := 10) rfl (by decide +kernel) (pv_assign (v := .int .i64 _) rfl) ?_
        refine dw_end rfl ?_
        refine xp_seq ?_
        refine xp_seq ?_
        refine xp_region rfl ?_
        refine op_pure (pv_move (v := .int .i64 _) rfl) ?_
        refine op_pure (pv_of (v := .bool _) rfl) ?_
        refine op_pure (pv_move (v := .bool _) rfl) ?_
        refine guard_yes rfl rfl ?_
        refine op_pure (pv_fieldAddr rfl rfl rfl rfl 2 rfl) ?_
        refine guard_yes rfl rfl ?_
        refine op_loadP 8 (v := .slice _ _ _) rfl rfl rfl rfl ?_
        refine guard_yes rfl rfl ?_
        refine op_pure (pv_len rfl rfl) ?_
        refine guard_yes rfl rfl ?_
        refine op_pure (pv_move (v := .int .i64 _) rfl) ?_
        refine guard_yes rfl rfl ?_
        refine op_pure (pv_of (v := .bool _) rfl) ?_
        refine op_pure (pv_pickF rfl rfl (v := .bool _) rfl) ?_
        refine op_pure (pv_move (v := .bool _) rfl) ?_
        refine guard_yes rfl e9 ?_
        refine op_pure (pv_fieldAddr rfl rfl rfl rfl 0 rfl) ?_
        refine guard_yes rfl e9 ?_
        refine op_loadP 8 (v := .slice _ _ _) rfl rfl rfl rfl ?_
        refine guard_yes rfl e9 ?_
        refine op_pure (pv_len rfl rfl) ?_
        refine guard_yes rfl e9 ?_
        refine op_pure (pv_fieldAddr rfl rfl rfl rfl 0 rfl) ?_
        refine guard_yes rfl e9 ?_
        refine op_loadP 1 (v := .slice _ _ _) rfl rfl rfl rfl ?_
        refine guard_yes rfl e9 ?_
        refine op_pure (pv_len rfl rfl) ?_
        refine guard_yes rfl e9 ?_
        refine op_pure (pv_of (v := .bool _) rfl) ?_
        refine op_pure (pv_pickF rfl e9 (v := .bool _) rfl) ?_
        refine xp_condF rfl (e16) ?_
        refine xp_skip ?_
        refine xp_region rfl ?_
        refine op_loadPA 8 (vs := [.slice _ _ _, .slice _ _ _, .slice _ _ _, .slice _ _ _]) rfl rfl rfl rfl rfl ?_
        refine op_storeP 1 (v := .agg #[.slice _ _ _, .slice _ _ _, .slice _ _ _, .slice _ _ _]) (vs := [_, _, _, _]) (c' := [_, _, _, _]) rfl rfl rfl rfl rfl rfl rfl rfl rfl ?_
        refine wp_norm [_, _, _, _, _, _, _, _, _] rfl ?_
        refine xp_region rfl ?_
        refine op_pure (pv_move (v := .int .i64 _) rfl) ?_
        refine op_pure (pv_arith rfl (by omega)) ?_
        refine op_pure (pv_assign (v := .int .i64 _) rfl) ?_
        refine ⟨⟨rd + 1, y6, withS xs sr, Y0, Y1, Y2, Y3, y0, y1, y2, y3, m0, m1⟩, ⟨rfl, trivial⟩, rfl, rfl, (Ext.trans (Ext.trans (Ext.trans (Ext.trans (Ext.trans (Ext.trans (Ext.trans (Ext.trans E_z E_i) GO) F1) F2) F3) F4) Q5) Q6), fun h3 E3 => ⟨⟨hr', by show xs.joints.length = an; omega, by show xs.heats.length = _; omega⟩, ⟨cb.1, cb.2⟩, RY.ext ((Ext.refl _).trans E3), T2⟩, by first | omega | (dsimp only; omega), ?_⟩
        repeat (first | exact off_base _ _ _ | refine off_upd (by decide) ?_ | refine off_updL rfl ?_ | refine off_mix rfl ?_)
  · skip
    refine xp_exit ?_
    refine xp_seq ?_
    refine xp_region rfl ?_
    refine op_fn (caps := []) (vs := []) rfl rfl rfl (leakyAwake_ok rfl h_z) ?_
    rintro _ f5 F5 rfl
    refine op_pure (pv_assign (v := .bool _) rfl) ?_
    refine xp_ret ?_
    exact ⟨rfl, fun V => (Ext.trans (Ext.trans (Ext.trans (Ext.trans (Ext.trans E1 E2) G5) E_z) F5) (ext_wl V)), rfl⟩
end Go.Proofs.Ytledjpdpkbifgaa
