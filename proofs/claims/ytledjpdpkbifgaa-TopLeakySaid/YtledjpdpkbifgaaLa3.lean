/- An own logic over the model, its walks and its plain laws, joined of parts W9 Y Sv W10 W11 Z W12 W13 Sw W14 W15 Sx W16 AA Ra GA GB GC GD. Conditions: as each theorem states. -/
import Derived.Test.YtledjpdpkbifgaaLa2
import Derived.Calls
import Derived.Test.YtledjpdpkbifgaaLa1
set_option linter.all false
/- Walks: kinds of joints; keys. Conditions: as each theorem states. -/
namespace Go.Proofs.Ytledjpdpkbifgaa
open Go Go.HL Go.Proofs Go.Wx
variable [Lvl]
set_option maxRecDepth 100000
/-- A kind's value. -/
def kindV (n : Int) : Value := if n = 1 then .iface 143 (.agg #[]) else .iface 144 (.agg #[])
theorem kindOf_ok (n : Int) (h : AH) : FnT Try.prog 60 #[.int .i64 n] h (fun v _ => v = kindV n) := by
  refine call_body Try.func60 rfl Try.ntmps60 rfl ?_
  refine xp_seq ?_
  refine xp_region rfl ?_
  refine op_pure (pv_assign (v := _) rfl) ?_
  refine xp_seq ?_
  refine xp_seq ?_
  refine xp_region rfl ?_
  refine op_pure (pv_move (v := .int .i64 _) rfl) ?_
  refine op_pure (pv_of (v := .bool _) rfl) ?_
  refine xp_cond rfl (fun hc => ?_) (fun hc => ?_)
  · skip
    refine xp_seq ?_
    refine xp_region rfl ?_
    refine op_pure (pv_build (zc := []) (vs := []) (cs := []) rfl rfl rfl rfl rfl rfl) ?_
    refine op_pure (pv_of (v := _) rfl) ?_
    refine op_pure (pv_assign (v := _) rfl) ?_
    refine xp_ret ?_
    refine res_list (vs := [_]) Try.results60 ⟨resV_tmp rfl rfl, trivial⟩ fun V => ?_
    exact ⟨(ext_wl V), by rw [kindV, if_pos (by simpa using hc)]; rfl⟩
  · skip
    refine xp_skip ?_
    refine xp_seq ?_
    refine xp_region rfl ?_
    refine op_pure (pv_build (zc := []) (vs := []) (cs := []) rfl rfl rfl rfl rfl rfl) ?_
    refine op_pure (pv_of (v := _) rfl) ?_
    refine op_pure (pv_assign (v := _) rfl) ?_
    refine xp_ret ?_
    refine res_list (vs := [_]) Try.results60 ⟨resV_tmp rfl rfl, trivial⟩ fun V => ?_
    exact ⟨(ext_wl V), by rw [kindV, if_neg (by simpa using hc)]; rfl⟩
theorem waxWeather_ok (s : Season) (A0 A1 A2 A3 : Option Addr) (c0 c1 c2 c3 : Nat) (h : AH) : FnT Try.prog 85 #[.agg #[], seasonV A0 A1 A2 A3 c0 c1 c2 c3 s] h (fun v _ => v = .slice A0 s.heats.length c0) := by
  refine call_body Try.func85 rfl Try.ntmps85 rfl ?_
  refine xp_seq ?_
  refine xp_region rfl ?_
  refine op_box (v := .agg #[]) (cs := []) rfl rfl fun b2 hb2 => ?_
  refine wp_norm [_] rfl ?_
  refine op_box (v := .agg #[.slice _ _ _, .slice _ _ _, .slice _ _ _, .slice _ _ _]) (cs := [_, _, _, _]) rfl rfl fun b3 hb3 => ?_
  refine wp_norm [_, _] rfl ?_
  refine op_pure (pv_assign (v := .slice _ _ _) rfl) ?_
  refine xp_seq ?_
  refine xp_region rfl ?_
  refine op_pure (pv_fieldAddr rfl rfl rfl rfl 0 rfl) ?_
  refine op_loadP 1 (v := .slice _ _ _) rfl rfl rfl rfl ?_
  refine op_pure (pv_assign (v := .slice _ _ _) rfl) ?_
  refine xp_ret ?_
  refine res_list (vs := [_]) Try.results85 ⟨resV_tmp rfl rfl, trivial⟩ fun V => ?_
  exact ⟨(ext_wl V), rfl⟩
theorem leatherWeather_ok (s : Season) (A0 A1 A2 A3 : Option Addr) (c0 c1 c2 c3 : Nat) (h : AH) : FnT Try.prog 87 #[.agg #[], seasonV A0 A1 A2 A3 c0 c1 c2 c3 s] h (fun v _ => v = .slice A1 s.damps.length c1) := by
  refine call_body Try.func87 rfl Try.ntmps87 rfl ?_
  refine xp_seq ?_
  refine xp_region rfl ?_
  refine op_box (v := .agg #[]) (cs := []) rfl rfl fun b2 hb2 => ?_
  refine wp_norm [_] rfl ?_
  refine op_box (v := .agg #[.slice _ _ _, .slice _ _ _, .slice _ _ _, .slice _ _ _]) (cs := [_, _, _, _]) rfl rfl fun b3 hb3 => ?_
  refine wp_norm [_, _] rfl ?_
  refine op_pure (pv_assign (v := .slice _ _ _) rfl) ?_
  refine xp_seq ?_
  refine xp_region rfl ?_
  refine op_pure (pv_fieldAddr rfl rfl rfl rfl 1 rfl) ?_
  refine op_loadP 1 (v := .slice _ _ _) rfl rfl rfl rfl ?_
  refine op_pure (pv_assign (v := .slice _ _ _) rfl) ?_
  refine xp_ret ?_
  refine res_list (vs := [_]) Try.results87 ⟨resV_tmp rfl rfl, trivial⟩ fun V => ?_
  exact ⟨(ext_wl V), rfl⟩
theorem fateK : KeyT Try.prog 91 fateV := by
  refine ⟨fun e a => ?_, fun a b => ?_, fun td ht a b => ?_, ⟨_, rfl⟩, fun a => by simp [Instr.sameBits, fateV]⟩
  · refine chk_array (len := 3) rfl rfl ?_
    intro i hi
    match i, hi with
    | 0, _ => exact ⟨_, rfl, chk_int rfl⟩
    | 1, _ => exact ⟨_, rfl, chk_int rfl⟩
    | 2, _ => exact ⟨_, rfl, chk_int rfl⟩
  · have h1 := eq_array (P := Try.prog) (t := 91) (d := 9999) (len := 3) (xs := #[.int .u64 a.a, .int .u64 a.b, .int .u64 a.c]) (ys := #[.int .u64 b.a, .int .u64 b.b, .int .u64 b.c]) (rs := [(a.a : Int) == b.a, (a.b : Int) == b.b, (a.c : Int) == b.c]) rfl rfl rfl ?_
    · refine h1.trans ?_
      simp
      obtain ⟨a1, a2, a3⟩ := a
      obtain ⟨b1, b2, b3⟩ := b
      simp [natBeq]
    · intro i r hr
      match i, hr with
      | 0, hr => cases hr; exact ⟨_, _, rfl, rfl, eq_int rfl _ _⟩
      | 1, hr => cases hr; exact ⟨_, _, rfl, rfl, eq_int rfl _ _⟩
      | 2, hr => cases hr; exact ⟨_, _, rfl, rfl, eq_int rfl _ _⟩
      | i + 3, hr => simp at hr
  · left
    cases ht
    rfl
theorem skyEq (a b : Sky) : pev Try.prog (Op.equalIn Op.maxDepth 135 (.agg (skyC a).toArray) (.agg (skyC b).toArray)) = some (decide (a = b)) := by
  have h1 := eq_array (P := Try.prog) (t := 135) (d := 9999) (len := 6) (xs := (skyC a).toArray) (ys := (skyC b).toArray) (rs := [a.x0 == b.x0, a.x1 == b.x1, a.x2 == b.x2, a.x3 == b.x3, a.x4 == b.x4, a.x5 == b.x5]) rfl rfl rfl ?_
  · refine h1.trans ?_
    obtain ⟨a0, a1, a2, a3, a4, a5⟩ := a
    obtain ⟨b0, b1, b2, b3, b4, b5⟩ := b
    simp only [List.all_cons, List.all_nil, id, Bool.and_true, Option.some.injEq]
    rw [Bool.eq_iff_iff]
    simp
  · intro i r hr
    match i, hr with
    | 0, hr => cases hr; exact ⟨_, _, rfl, rfl, eq_int rfl _ _⟩
    | 1, hr => cases hr; exact ⟨_, _, rfl, rfl, eq_int rfl _ _⟩
    | 2, hr => cases hr; exact ⟨_, _, rfl, rfl, eq_int rfl _ _⟩
    | 3, hr => cases hr; exact ⟨_, _, rfl, rfl, eq_int rfl _ _⟩
    | 4, hr => cases hr; exact ⟨_, _, rfl, rfl, eq_int rfl _ _⟩
    | 5, hr => cases hr; exact ⟨_, _, rfl, rfl, eq_int rfl _ _⟩
    | i + 6, hr => simp at hr
end Go.Proofs.Ytledjpdpkbifgaa
/- The own logic, part Y: reading what grows; maps gone through. Conditions: none. -/
namespace Go.HL
open Go Go.Wx
variable [Lvl]
section
variable {P : Program} {n : Nat} {ops : Array Oper} {d : Option Tmp} {op : Op} {ty : TypeId} {ps : String} {af : Array Edge} {os : List Oper} {K : Sl → Pv → AH → Prop} {E : Value → Sl → Pv → AH → Prop} {S : Sl} {L : Pv} {h : AH}
theorem op_loadW {t : TypeId} {x : Operand} {g off m : Nat} {cs : List Value} (hx : ev n S x = .pointer (some ⟨g, off, none⟩)) (ha : pev P (isAgg t) = some true) (hs : pev P (sizeOf t) = some m)
    (hm : cs.length = m) (hc : Valid h L → Cells (wl h L) g off cs) (k : wpL P n ops os K E (put S d (.agg cs.toArray)) L h) : wpL P n ops (⟨d, .load t x, ty, ps, af, none⟩ :: os) K E S L h := by
  refine op_of fun V => ?_
  unfold opW
  simp only [execOp, hx, Instr.loadAt, Instr.sureAddr]
  refine dem_bind (dem_pev_bind (a := ⟨g, off, none⟩) rfl (dem_pev_bind ha ?_))
  exact dem_pev_bind hs (dem_bind (dem_loadCells hm (hc V) ⟨L, h, rfl, V, k⟩))
end
/-- An element of what has grown, where it lies. -/
theorem AccR.at {α : Type} {e : TypeId} {m : Nat} {enc : α → List Value} {l : List α} {a : Acc} (r : AccR e m (l.flatMap enc) a) (hl : ∀ x ∈ l, (enc x).length = m) (hm : 0 < m) {i : Nat} (hi : i < l.length) :
    ∃ g, a.A = some ⟨g, 0, none⟩ ∧ ∀ (h : AH) (L : Pv) (j : Nat), L[j]? = some a.p → Valid h L → Cells (wl h L) g (0 + i * m) (enc l[i]) := by
  have hx : l[i]? = some l[i] := List.getElem?_eq_getElem hi
  have hfl := flat_len hl
  rcases r with ⟨_, e0, A, ev⟩ | ⟨b, len, cap, junk, hlen, ev, hpp, _⟩
  · exfalso
    rw [e0] at hfl
    have : 0 < l.length * m := Nat.mul_pos (by omega) hm
    simp at hfl
    omega
  · injection ev with h1 _ _
    refine ⟨b, h1, fun h L j hj V => ?_⟩
    rw [hpp] at hj
    intro q u hu
    have h2 := flat_get enc m l hl i l[i] hx q u hu
    have h3 : (l.flatMap enc ++ junk)[i * m + q]? = some u := by rw [List.getElem?_append_left (List.getElem?_eq_some_iff.1 h2).1]; exact h2
    simp only [cellA, wl_get V hj]
    rw [show 0 + i * m + q = i * m + q from by omega]
    simpa using h3
theorem encs_get {α : Type} {enc : α → Value} {l : List (α × Value)} {j : Nat} {p : Value × Value} (h : (encs enc l)[j]? = some p) : ∃ y v, l[j]? = some (y, v) ∧ p = (enc y, v) := by
  unfold encs at h
  rw [List.getElem?_map] at h
  cases hl : l[j]? with
  | none => rw [hl] at h; cases h
  | some q => rw [hl] at h; simp at h; exact ⟨q.1, q.2, rfl, h.symm⟩
theorem insAll_get {α : Type} [DecidableEq α] {l : List α} (y : α) : (∃ (j : Nat) (v : Value), (insAll l)[j]? = some (y, v)) ↔ y ∈ l := by
  rw [← insAll_keys l y]
  constructor
  · rintro ⟨j, v, h⟩
    exact List.mem_map.2 ⟨(y, v), List.mem_of_getElem? h, rfl⟩
  · intro h
    obtain ⟨p, hp, rfl⟩ := List.mem_map.1 h
    obtain ⟨j, hj⟩ := List.getElem?_of_mem hp
    exact ⟨j, p.2, hj⟩
theorem setAcc (L : Pv) (k : Nat) (AC : Nat → Acc) (i : Nat) (hi : i < 3) (a a2 : Acc) (h0 : L[k]? = some (fset AC i a 0).p) (h1 : L[k + 1]? = some (fset AC i a 1).p) (h2 : L[k + 2]? = some (fset AC i a 2).p) :
    L.set (k + i) a2.p = ((L.set k (fset AC i a2 0).p).set (k + 1) (fset AC i a2 1).p).set (k + 2) (fset AC i a2 2).p := by
  have l2 : k + 2 < L.length := (List.getElem?_eq_some_iff.1 h2).1
  apply List.ext_getElem?
  intro j
  simp only [List.getElem?_set, List.length_set]
  match i, hi with
  | 0, _ =>
    by_cases j0 : k = j
    · subst j0; simp [fset]
    · by_cases j1 : k + 1 = j
      · subst j1; simp; rw [if_pos (by omega)]; exact h1
      · by_cases j2 : k + 2 = j
        · subst j2; simp; rw [if_pos (by omega)]; exact h2
        · simp [j0, j1, j2]
  | 1, _ =>
    by_cases j0 : k = j
    · subst j0; simp; rw [if_pos (by omega)]; exact h0
    · by_cases j1 : k + 1 = j
      · subst j1; simp [fset]
      · by_cases j2 : k + 2 = j
        · subst j2; simp; rw [if_pos (by omega)]; exact h2
        · simp [j0, j1, j2]
  | 2, _ =>
    by_cases j0 : k = j
    · subst j0; simp; rw [if_pos (by omega)]; exact h0
    · by_cases j1 : k + 1 = j
      · subst j1; simp; rw [if_pos (by omega)]; exact h1
      · by_cases j2 : k + 2 = j
        · subst j2; simp [fset]
        · simp [j0, j1, j2]
theorem setG (L : Pv) (k : Nat) (f g : Nat → Option (Nat × Obj)) (i : Nat) (hi : i < 3) (h0 : L[k]? = some (f 0)) (h1 : L[k + 1]? = some (f 1)) (h2 : L[k + 2]? = some (f 2)) (hg : ∀ j, j ≠ i → g j = f j) :
    L.set (k + i) (g i) = ((L.set k (g 0)).set (k + 1) (g 1)).set (k + 2) (g 2) := by
  have l2 : k + 2 < L.length := (List.getElem?_eq_some_iff.1 h2).1
  apply List.ext_getElem?
  intro j
  simp only [List.getElem?_set, List.length_set]
  match i, hi, hg with
  | 0, _, hg =>
    by_cases j0 : k = j
    · subst j0; simp
    · by_cases j1 : k + 1 = j
      · subst j1; simp; rw [if_pos (by omega), hg 1 (by omega)]; exact h1
      · by_cases j2 : k + 2 = j
        · subst j2; simp; rw [if_pos (by omega), hg 2 (by omega)]; exact h2
        · simp [j0, j1, j2]
  | 1, _, hg =>
    by_cases j0 : k = j
    · subst j0; simp; rw [if_pos (by omega), hg 0 (by omega)]; exact h0
    · by_cases j1 : k + 1 = j
      · subst j1; simp
      · by_cases j2 : k + 2 = j
        · subst j2; simp; rw [if_pos (by omega), hg 2 (by omega)]; exact h2
        · simp [j0, j1, j2]
  | 2, _, hg =>
    by_cases j0 : k = j
    · subst j0; simp; rw [if_pos (by omega), hg 0 (by omega)]; exact h0
    · by_cases j1 : k + 1 = j
      · subst j1; simp; rw [if_pos (by omega), hg 1 (by omega)]; exact h1
      · by_cases j2 : k + 2 = j
        · subst j2; simp
        · simp [j0, j1, j2]
theorem a3idx (AC : Nat → Acc) : ∀ q : Nat, q < 3 → [(AC 0).v, (AC 1).v, (AC 2).v][(q : Int).toNat]? = some (.slice (AC q).A (AC q).n (AC q).c)
  | 0, _ => rfl
  | 1, _ => rfl
  | 2, _ => rfl
  | q + 3, h => by omega
theorem f3arr (F : Nat → Nat) (m : Nat) : ∀ i : Nat, i < 3 → #[Value.int .u64 (fset F i m 0 : Nat), .int .u64 (fset F i m 1 : Nat), .int .u64 (fset F i m 2 : Nat)][0 + (i : Int).toNat * 1]? = some (.int .u64 (m : Nat))
  | 0, _ => rfl
  | 1, _ => rfl
  | 2, _ => rfl
  | i + 3, h => by omega
theorem f3wr (F : Nat → Nat) (m m' : Nat) : ∀ i : Nat, i < 3 → wrL [Value.int .u64 (fset F i m 0 : Nat), .int .u64 (fset F i m 1 : Nat), .int .u64 (fset F i m 2 : Nat)] (0 + (i : Int).toNat * 1) [.int .u64 (m' : Nat)] = [Value.int .u64 (fset F i m' 0 : Nat), .int .u64 (fset F i m' 1 : Nat), .int .u64 (fset F i m' 2 : Nat)]
  | 0, _ => rfl
  | 1, _ => rfl
  | 2, _ => rfl
  | i + 3, h => by omega
theorem a3arr (AC : Nat → Acc) (a : Acc) : ∀ i : Nat, i < 3 → #[(fset AC i a 0).v, (fset AC i a 1).v, (fset AC i a 2).v][0 + (i : Int).toNat * 1]? = some (.slice a.A a.n a.c)
  | 0, _ => rfl
  | 1, _ => rfl
  | 2, _ => rfl
  | i + 3, h => by omega
theorem a3wr (AC : Nat → Acc) (a a' : Acc) : ∀ i : Nat, i < 3 → wrL [(fset AC i a 0).v, (fset AC i a 1).v, (fset AC i a 2).v] (0 + (i : Int).toNat * 1) [.slice a'.A a'.n a'.c] = [(fset AC i a' 0).v, (fset AC i a' 1).v, (fset AC i a' 2).v]
  | 0, _ => rfl
  | 1, _ => rfl
  | 2, _ => rfl
  | i + 3, h => by omega
/-- What holds while the failures of a joint are gone through. -/
structure InnerJ (T : TypeId) (s : Season) (i : Nat) (kv : List (Fl × Value)) (sn : List Nat) (m : Nat) (a : Acc) (la : List Fl) : Prop where
  nd : sn.Nodup
  lt : ∀ j ∈ sn, j < kv.length
  mask : ∀ w, m.testBit w = true ↔ ∃ j ∈ sn, ∃ y v, kv[j]? = some (y, v) ∧ (toldW s i).testBit y.week = true ∧ y.week = w
  mem : ∀ y, y ∈ la ↔ ∃ j ∈ sn, ∃ v, kv[j]? = some (y, v) ∧ (toldW s i).testBit y.week = true
  acc : AccR T 2 (la.flatMap flC) a
  len : la.length ≤ sn.length
  small : m < 2 ^ 62
theorem InnerJ.snlen {T : TypeId} {s : Season} {i : Nat} {kv : List (Fl × Value)} {sn : List Nat} {m : Nat} {a : Acc} {la : List Fl} (J : InnerJ T s i kv sn m a la) : sn.length ≤ kv.length := nodup_len _ _ J.nd J.lt
theorem snoc_nodup {sn : List Nat} {j : Nat} (h : sn.Nodup) (hj : j ∉ sn) : (sn ++ [j]).Nodup := by
  rw [List.nodup_append]
  exact ⟨h, by simp, fun a ha b hb e => by simp at hb; subst hb; subst e; exact hj ha⟩
theorem InnerJ.no {T : TypeId} {s : Season} {i : Nat} {kv : List (Fl × Value)} {sn : List Nat} {m : Nat} {a : Acc} {la : List Fl} (J : InnerJ T s i kv sn m a la) {j : Nat} {y : Fl} {v : Value} (hj : kv[j]? = some (y, v)) (hn : j ∉ sn) (ht : (toldW s i).testBit y.week = false) : InnerJ T s i kv (sn ++ [j]) m a la := by
  refine ⟨snoc_nodup J.nd hn, ?_, fun w => ?_, fun z => ?_, J.acc, by rw [List.length_append]; have := J.len; omega, J.small⟩
  · intro k hk
    rcases List.mem_append.1 hk with h | h
    · exact J.lt k h
    · simp at h; subst h; exact (List.getElem?_eq_some_iff.1 hj).1
  · rw [J.mask w]
    constructor
    · rintro ⟨k, hk, r⟩; exact ⟨k, List.mem_append_left _ hk, r⟩
    · rintro ⟨k, hk, y', v', h1, h2, h3⟩
      rcases List.mem_append.1 hk with h | h
      · exact ⟨k, h, y', v', h1, h2, h3⟩
      · simp at h; subst h; rw [hj] at h1; cases h1; rw [ht] at h2; cases h2
  · rw [J.mem z]
    constructor
    · rintro ⟨k, hk, r⟩; exact ⟨k, List.mem_append_left _ hk, r⟩
    · rintro ⟨k, hk, v', h1, h2⟩
      rcases List.mem_append.1 hk with h | h
      · exact ⟨k, h, v', h1, h2⟩
      · simp at h; subst h; rw [hj] at h1; cases h1; rw [ht] at h2; cases h2
theorem InnerJ.yes {T : TypeId} {s : Season} {i : Nat} {kv : List (Fl × Value)} {sn : List Nat} {m : Nat} {a : Acc} {la : List Fl} (J : InnerJ T s i kv sn m a la) {j : Nat} {y : Fl} {v : Value} (hj : kv[j]? = some (y, v)) (hn : j ∉ sn) (ht : (toldW s i).testBit y.week = true) (hw : y.week < 62) {a' : Acc} (ha : AccR T 2 (la.flatMap flC ++ flC y) a') : InnerJ T s i kv (sn ++ [j]) (withM m y.week) a' (la ++ [y]) := by
  refine ⟨snoc_nodup J.nd hn, ?_, fun w => ?_, fun z => ?_, by rw [List.flatMap_append]; simpa using ha, by rw [List.length_append, List.length_append]; have := J.len; simp; omega, withM_lt J.small hw⟩
  · intro k hk
    rcases List.mem_append.1 hk with h | h
    · exact J.lt k h
    · simp at h; subst h; exact (List.getElem?_eq_some_iff.1 hj).1
  · rw [withM, Nat.testBit_or, Nat.testBit_two_pow, Bool.or_eq_true, J.mask w]
    simp only [decide_eq_true_eq]
    constructor
    · rintro (⟨k, hk, r⟩ | e)
      · exact ⟨k, List.mem_append_left _ hk, r⟩
      · exact ⟨j, by simp, y, v, hj, ht, e⟩
    · rintro ⟨k, hk, y', v', h1, h2, h3⟩
      rcases List.mem_append.1 hk with h | h
      · exact .inl ⟨k, h, y', v', h1, h2, h3⟩
      · simp at h; subst h; rw [hj] at h1; cases h1; exact .inr h3
  · rw [List.mem_append, J.mem z]
    constructor
    · rintro (⟨k, hk, r⟩ | e)
      · exact ⟨k, List.mem_append_left _ hk, r⟩
      · simp at e; subst e; exact ⟨j, by simp, v, hj, ht⟩
    · rintro ⟨k, hk, v', h1, h2⟩
      rcases List.mem_append.1 hk with h | h
      · exact .inl ⟨k, h, v', h1, h2⟩
      · simp at h; subst h; rw [hj] at h1; cases h1; exact .inr (by simp)
theorem InnerJ.all {T : TypeId} {s : Season} {n : Int} {x : Sky} {i : Nat} {j : Joint} (hj : s.joints[i]? = some j) (hk : j.kind = n) {sn : List Nat} {m : Nat} {a : Acc} {la : List Fl} (J : InnerJ T s i (insAll (failuresM j x s.heats.length)) sn m a la) (ha : ∀ k, k < (insAll (failuresM j x s.heats.length)).length → k ∈ sn) : m = fateM s n x i ∧ ∀ y, y ∈ la ↔ y ∈ surv s n x i := by
  have hs : surv s n x i = (failuresM j x s.heats.length).filter (fun y => (toldW s i).testBit y.week) := by unfold surv; rw [hj]; simp [hk]
  have key : ∀ y, y ∈ surv s n x i ↔ ∃ k ∈ sn, ∃ v, (insAll (failuresM j x s.heats.length))[k]? = some (y, v) ∧ (toldW s i).testBit y.week = true := by
    intro y
    rw [hs, List.mem_filter, ← insAll_get y]
    constructor
    · rintro ⟨⟨k, v, h1⟩, h2⟩; exact ⟨k, ha k (List.getElem?_eq_some_iff.1 h1).1, v, h1, h2⟩
    · rintro ⟨k, _, v, h1, h2⟩; exact ⟨⟨k, v, h1⟩, h2⟩
  refine ⟨mask_unique fun w => ?_, fun y => (J.mem y).trans (key y).symm⟩
  rw [J.mask w]
  constructor
  · rintro ⟨k, hk, y, v, h1, h2, h3⟩; exact ⟨y, (key y).2 ⟨k, hk, v, h1, h2⟩, h3⟩
  · rintro ⟨y, hy, h3⟩
    obtain ⟨k, hk, v, h1, h2⟩ := (key y).1 hy
    exact ⟨k, hk, y, v, h1, h2, h3⟩
end Go.HL
/- What the questions about a season answer, in plain data. Conditions: none. -/
namespace Go.Wx
open Go Go.HL
variable [Lvl]
abbrev skM (s : Season) (n : Int) : List Sky := skK s n (allSkies s n).length
abbrev fatesM (s : Season) (n : Int) : List Fate := fatesK s n (allSkies s n).length
abbrev flsM (s : Season) (n : Int) (i : Nat) : List Fl := flsK s n i (allSkies s n).length
/-- Whether there is a truth. -/
def mayM (s : Season) : Bool := decide (0 < (skM s 1).length) && decide (0 < (skM s 2).length)
/-- The error of a question: the season's, then those of what is asked, then that there is no truth. -/
def knownM (s : Season) (es : List Int) : Int := if checkM s ≠ 0 then checkM s else if firstErr id es ≠ 0 then firstErr id es else if mayM s then 0 else 9
def isJointM (s : Season) (j : Int) : Int := if inM j 0 (s.joints.length - 1) then 0 else 3
def isWeekM (s : Season) (w : Int) : Int := if inM w 0 (s.heats.length - 1) then 0 else 1
theorem checkWeatherM_zero {r : Rg} (h : checkWeatherM r = 0) : RangeB r ∧ -50 ≤ r.mn ∧ r.mx ≤ 100 := by
  unfold checkWeatherM at h
  split at h
  · rename_i h1; exact absurd h h1
  · rename_i h1
    have h2 := checkRangeM_zero (by simpa using h1)
    split at h
    · cases h
    · exact ⟨⟨by omega, by omega, by omega, by omega⟩, by omega, by omega⟩
theorem checkJointM_zero {j : Joint} (h : checkJointM j = 0) : JointB j ∧ (j.kind = 1 ∨ j.kind = 2) := by
  unfold checkJointM at h
  split at h
  · cases h
  · rename_i h0
    split at h
    · rename_i h1; exact absurd h h1
    · rename_i h1
      split at h
      · rename_i h2; exact absurd h h2
      · rename_i h2
        split at h
        · rename_i h3; exact absurd h h3
        · rename_i h3
          obtain ⟨a, _, _⟩ := checkWeatherM_zero (r := j.high) (by simpa using h1)
          obtain ⟨b, _, _⟩ := checkWeatherM_zero (r := j.low) (by simpa using h2)
          have c := checkRangeM_zero (x := j.weeks) (by simpa using h3)
          have d := checkRangeM_zero (x := j.life) h
          simp only [inM, Bool.not_eq_true, Bool.not_eq_false', Bool.and_eq_true, decide_eq_true_eq] at h0
          refine ⟨⟨a.lo, a.le, a.hi, b.lo, b.le, b.hi, by omega, by omega, by omega, by omega, by omega, by omega, a.wide, b.wide⟩, by omega⟩
/-- What a season without an error is. -/
structure SeasonV (s : Season) : Prop where
  b : SeasonB s
  kinds : ∀ j ∈ s.joints, j.kind = 1 ∨ j.kind = 2
  seen : ∀ r ∈ s.reports, 0 ≤ r.joint ∧ r.joint < s.joints.length ∧ 0 ≤ r.week ∧ r.week < s.heats.length
  hr : ∀ r ∈ s.heats, -50 ≤ r.mn ∧ r.mx ≤ 100
  dr : ∀ r ∈ s.damps, -50 ≤ r.mn ∧ r.mx ≤ 100
theorem checkM_zero {s : Season} (h : checkM s = 0) : SeasonV s := by
  unfold checkM at h
  split at h
  · cases h
  · split at h
    · cases h
    · split at h
      · cases h
      · split at h
        · cases h
        · split at h
          · rename_i h1; exact absurd h h1
          · rename_i h1
            split at h
            · cases h
            · split at h
              · rename_i h2; exact absurd h h2
              · rename_i h2
                split at h
                · cases h
                · have w := firstErr_zero (by simpa using h1)
                  have jj := firstErr_zero (by simpa using h2)
                  have rr := firstErr_zero h
                  have wh : ∀ r ∈ s.heats, RangeB r ∧ -50 ≤ r.mn ∧ r.mx ≤ 100 := fun r hr => checkWeatherM_zero (w r (List.mem_append_left _ hr))
                  have wd : ∀ r ∈ s.damps, RangeB r ∧ -50 ≤ r.mn ∧ r.mx ≤ 100 := fun r hr => checkWeatherM_zero (w r (List.mem_append_right _ hr))
                  have rs : ∀ r ∈ s.reports, 0 ≤ r.joint ∧ r.joint < s.joints.length ∧ 0 ≤ r.week ∧ r.week < s.heats.length := by
                    intro r hr
                    have := rr r hr
                    unfold checkSeenM inM at this
                    split at this
                    · cases this
                    · rename_i q1
                      split at this
                      · cases this
                      · rename_i q2
                        simp only [Bool.not_eq_true, Bool.not_eq_false', Bool.and_eq_true, decide_eq_true_eq] at q1 q2
                        omega
                  refine ⟨⟨by omega, by omega, by omega, fun r hr => (wh r hr).1, fun r hr => (wd r hr).1, by omega, fun j hj => (checkJointM_zero (jj j hj)).1, by omega, fun r hr => ?_⟩, fun j hj => (checkJointM_zero (jj j hj)).2, rs, fun r hr => (wh r hr).2, fun r hr => (wd r hr).2⟩
                  have := rs r hr
                  omega
theorem knownM_zero {s : Season} {es : List Int} (h : knownM s es = 0) : checkM s = 0 ∧ firstErr id es = 0 ∧ mayM s = true := by
  unfold knownM at h
  split at h
  · rename_i h1; exact absurd h h1
  · rename_i h1
    split at h
    · rename_i h2; exact absurd h h2
    · rename_i h2
      split at h
      · rename_i h3; exact ⟨by simpa using h1, by simpa using h2, h3⟩
      · cases h
/-- The weeks in which a joint can fail. -/
def failsM (s : Season) (i : Nat) : Nat := maskM (flsM s (kindAt s i) i)
theorem surv_week {s : Season} {n : Int} {x : Sky} {i : Nat} {y : Fl} (h : y ∈ surv s n x i) : y.week ≤ s.heats.length := by
  unfold surv at h
  split at h
  · split at h
    · exact failuresM_week (List.mem_filter.1 h).1
    · cases h
  · cases h
theorem flsK_week {s : Season} {n : Int} {i k : Nat} {y : Fl} (h : y ∈ flsK s n i k) : y.week ≤ s.heats.length := by
  unfold flsK at h
  obtain ⟨x, _, hy⟩ := List.mem_flatMap.1 h
  exact surv_week hy
theorem maskM_lt {l : List Fl} (h : ∀ y ∈ l, y.week ≤ 6) : maskM l < 2 ^ 7 := by
  induction l with
  | nil => simp [maskM]
  | cons y l ih =>
    rw [maskM]
    exact Nat.or_lt_two_pow (ih fun z hz => h z (List.mem_cons_of_mem _ hz)) (Nat.pow_lt_pow_right (by omega) (by have := h y (List.mem_cons_self ..); omega))
theorem failsM_lt {s : Season} (h6 : s.heats.length ≤ 6) (i : Nat) : failsM s i < 2 ^ 7 := maskM_lt fun y hy => by have := flsK_week hy; omega
def verdictM (is no : Bool) : Int := if !no then 1 else if !is then 2 else 3
def failedM (s : Season) (i : Nat) (w : Nat) : Int := verdictM (decide (uptoM (failsM s i) w ≠ 0)) (decide (failsM s i ≠ uptoM (failsM s i) w))
end Go.Wx
/- Walks: what can be of a kind of joints. Conditions: as each theorem states. -/
namespace Go.Proofs.Ytledjpdpkbifgaa
open Go Go.HL Go.Proofs Go.Wx
variable [Lvl]
set_option maxRecDepth 100000
abbrev mvk (k : Nat) (fm : Nat → Nat) (i : Nat) : Value := .map (if i < k then some (fm i) else none)
def mpk (k : Nat) (fm : Nat → Nat) (fl : Nat → List Fl) (i : Nat) : Option (Nat × Obj) := if i < k then some (fm i, mapO (encs flV (insAll (fl i)))) else none
/-- The cells of what can be of a kind. -/
abbrev halfC (s : Season) (n : Int) (A : Option Addr) (c mf : Nat) (fm : Nat → Nat) : List Value := [.slice A (skM s n).length c, .map (some mf), mvk s.joints.length fm 0, mvk s.joints.length fm 1, mvk s.joints.length fm 2]
structure HalfX (h : AH) (s : Season) (n : Int) (A : Option Addr) (mf : Nat) (fm : Nat → Nat) (fl : Nat → List Fl) : Prop where
  sk : Row h 6 skyC A (skM s n)
  ft : h mf = some (mapO (encs fateV (insAll (fatesM s n))))
  fs : ∀ i, i < s.joints.length → h (fm i) = some (mapO (encs flV (insAll (fl i)))) ∧ ∀ y, y ∈ fl i ↔ y ∈ flsM s n i
theorem HalfX.ext {h h' : AH} {s : Season} {n : Int} {A : Option Addr} {mf : Nat} {fm : Nat → Nat} {fl : Nat → List Fl} (x : HalfX h s n A mf fm fl) (E : Ext h h') : HalfX h' s n A mf fm fl :=
  ⟨x.sk.ext E, E _ _ x.ft, fun i hi => ⟨E _ _ (x.fs i hi).1, (x.fs i hi).2⟩⟩
/-- A value that is what can be of a kind. -/
def HalfR (h : AH) (s : Season) (n : Int) (v : Value) : Prop := ∃ (A : Option Addr) (c mf : Nat) (fm : Nat → Nat) (fl : Nat → List Fl), v = .agg (halfC s n A c mf fm).toArray ∧ HalfX h s n A mf fm fl
/-- What holds between the rounds. -/
def HalfI (s : Season) (n : Int) (b2 b3 b4 b19 b5 b6 : Nat) (A0 A1 A2 A3 : Option Addr) (c0 c1 c2 c3 : Nat) (fm : Nat → Nat) (l : Nat) (r : Loop) (h0 : AH) (k : Nat) (h : AH) (M : Pv) : Prop :=
  Ext h0 h ∧ ∃ (a : Acc) (fl : Nat → List Fl), M = [some (b2, .cells #[.slice A0 s.heats.length c0, .slice A1 s.damps.length c1, .slice A2 s.joints.length c2, .slice A3 s.reports.length c3] 29 (0, 0)), some (b3, .cells #[.int .i64 n] 3 (0, 0)), some (b4, .cells #[.slice none 0 0, .map none, .map none, .map none, .map none] 69 (0, 0)),
    some (b19, mapO (encs fateV (insAll (fatesK s n k)))), some (b5, .cells #[.slice a.A a.n a.c, .map (some b19), mvk s.joints.length fm 0, mvk s.joints.length fm 1, mvk s.joints.length fm 2] 69 (0, 0)), some (b6, .cells #[.int .i64 (s.heats.length - 1)] 3 (0, 0)),
    mpk s.joints.length fm fl 0, mpk s.joints.length fm fl 1, mpk s.joints.length fm fl 2, a.p, some (l, obL r .ready none)] ∧
    AccR 135 6 ((skK s n k).flatMap skyC) a ∧ ∀ i, i < s.joints.length → ∀ y, y ∈ fl i ↔ y ∈ flsK s n i k
theorem HalfI.ext {s : Season} {n : Int} {b2 b3 b4 b19 b5 b6 : Nat} {A0 A1 A2 A3 : Option Addr} {c0 c1 c2 c3 : Nat} {fm : Nat → Nat} {l : Nat} {r : Loop} {h0 : AH} {k : Nat} {h h' : AH} {M : Pv} (I : HalfI s n b2 b3 b4 b19 b5 b6 A0 A1 A2 A3 c0 c1 c2 c3 fm l r h0 k h M) (E : Ext h h') : HalfI s n b2 b3 b4 b19 b5 b6 A0 A1 A2 A3 c0 c1 c2 c3 fm l r h0 k h' M :=
  ⟨I.1.trans E, I.2⟩
/-- What holds while the joints are gone through. -/
structure BodyJ (s : Season) (n : Int) (x : Sky) (i : Nat) (F : Nat → Nat) (AC : Nat → Acc) (Ls : Nat → List Fl) : Prop where
  le : i ≤ s.joints.length
  done : ∀ k, k < i → F k = fateM s n x k ∧ (kindAt s k = n → F k ≠ 0) ∧ ∀ y, y ∈ Ls k ↔ y ∈ surv s n x k
  rest : ∀ k, i ≤ k → F k = 0 ∧ Ls k = []
  acc : ∀ k, AccR 117 2 ((Ls k).flatMap flC) (AC k)
  len : ∀ k, (Ls k).length ≤ 540
theorem BodyJ.zero (s : Season) (n : Int) (x : Sky) : BodyJ s n x 0 (fun _ => 0) (fun _ => acc0) (fun _ => []) :=
  ⟨Nat.zero_le _, fun k hk => by omega, fun _ _ => ⟨rfl, rfl⟩, fun _ => accR0, fun _ => by simp⟩
theorem BodyJ.skip {s : Season} {n : Int} {x : Sky} {i : Nat} {F : Nat → Nat} {AC : Nat → Acc} {Ls : Nat → List Fl} (J : BodyJ s n x i F AC Ls) (hi : i < s.joints.length) (hk : kindAt s i ≠ n) : BodyJ s n x (i + 1) F AC Ls := by
  have hs : surv s n x i = [] := by
    unfold kindAt at hk
    unfold surv
    rw [List.getElem?_eq_getElem hi] at hk ⊢
    simp at hk ⊢
    intro e
    exact absurd e hk
  refine ⟨hi, fun k hk' => ?_, fun k hk' => J.rest k (by omega), J.acc, J.len⟩
  rcases Nat.lt_or_ge k i with h | h
  · exact J.done k h
  · have : k = i := by omega
    subst this
    obtain ⟨h1, h2⟩ := J.rest k (Nat.le_refl _)
    refine ⟨by rw [h1, fateM, hs]; rfl, fun e => absurd e hk, fun y => by rw [h2, hs]⟩
theorem BodyJ.inner {s : Season} {n : Int} {x : Sky} {i : Nat} {F : Nat → Nat} {AC : Nat → Acc} {Ls : Nat → List Fl} {kv : List (Fl × Value)} (J : BodyJ s n x i F AC Ls) : InnerJ 117 s i kv [] (F i) (AC i) (Ls i) := by
  obtain ⟨h1, h2⟩ := J.rest i (Nat.le_refl _)
  refine ⟨List.nodup_nil, fun _ h => (by cases h), fun w => by simp [h1], fun y => by simp [h2], J.acc i, by simp [h2], by simp [h1]⟩
theorem BodyJ.step {s : Season} {n : Int} {x : Sky} {i : Nat} {F : Nat → Nat} {AC : Nat → Acc} {Ls : Nat → List Fl} (J : BodyJ s n x i F AC Ls) (hi : i < s.joints.length) {m : Nat} {a : Acc} {la : List Fl} (h1 : m = fateM s n x i) (h2 : m ≠ 0) (h3 : ∀ y, y ∈ la ↔ y ∈ surv s n x i) (h4 : AccR 117 2 (la.flatMap flC) a) (h5 : la.length ≤ 540) :
    BodyJ s n x (i + 1) (fset F i m) (fset AC i a) (fset Ls i la) := by
  refine ⟨hi, fun k hk => ?_, fun k hk => ?_, fun k => ?_, fun k => ?_⟩
  · rcases Nat.lt_or_ge k i with h | h
    · rw [fset_ne _ (by omega), fset_ne _ (by omega)]; exact J.done k h
    · have : k = i := by omega
      subst this
      rw [fset_at, fset_at]
      exact ⟨h1, fun _ => h2, h3⟩
  · rw [fset_ne _ (by omega), fset_ne _ (by omega)]; exact J.rest k (by omega)
  · by_cases h : k = i
    · subst h; rw [fset_at, fset_at]; exact h4
    · rw [fset_ne _ h, fset_ne _ h]; exact J.acc k
  · by_cases h : k = i
    · subst h; rw [fset_at]; exact h5
    · rw [fset_ne _ h]; exact J.len k
theorem BodyJ.ok {s : Season} {n : Int} {x : Sky} {F : Nat → Nat} {AC : Nat → Acc} {Ls : Nat → List Fl} (J : BodyJ s n x s.joints.length F AC Ls) : okM s n x = true := by
  unfold okM
  rw [List.all_eq_true]
  intro i hi
  rw [List.mem_range] at hi
  obtain ⟨h1, h2, _⟩ := J.done i hi
  by_cases hk : kindAt s i = n
  · have := h2 hk
    rw [h1] at this
    simp [this]
  · simp [hk]
theorem not_okM {s : Season} {n : Int} {x : Sky} {i : Nat} (hi : i < s.joints.length) (hk : kindAt s i = n) (hz : fateM s n x i = 0) : okM s n x = false := by
  rw [Bool.eq_false_iff]
  intro h
  unfold okM at h
  rw [List.all_eq_true] at h
  have := h i (by simpa using hi)
  simp [hk, hz] at this
theorem BodyJ.fate {s : Season} {n : Int} {x : Sky} {F : Nat → Nat} {AC : Nat → Acc} {Ls : Nat → List Fl} (J : BodyJ s n x s.joints.length F AC Ls) : Value.agg #[.int .u64 (F 0 : Nat), .int .u64 (F 1 : Nat), .int .u64 (F 2 : Nat)] = fateV (fateOf s n x) := by
  have hF : ∀ k, F k = fateM s n x k := by
    intro k
    rcases Nat.lt_or_ge k s.joints.length with h | h
    · exact (J.done k h).1
    · rw [(J.rest k h).1, fateM, surv, List.getElem?_eq_none h]
      rfl
  rw [hF 0, hF 1, hF 2]
  rfl
theorem mapsJ {N q : Nat} {fl fl' Ls : Nat → List Fl} {cur : List Fl} (h1 : ∀ i, i < N → ∀ y, y ∈ fl' i ↔ y ∈ fl i ∨ (i < q ∧ y ∈ Ls i)) (h2 : ∀ y, y ∈ cur ↔ y ∈ fl' q ∨ y ∈ Ls q) : ∀ i, i < N → ∀ y, y ∈ fset fl' q cur i ↔ y ∈ fl i ∨ (i < q + 1 ∧ y ∈ Ls i) := by
  intro i hi y
  by_cases h : i = q
  · subst h
    rw [fset_at, h2 y, h1 i hi y]
    constructor
    · rintro ((h | h) | h)
      · exact .inl h
      · exact .inr ⟨by omega, h.2⟩
      · exact .inr ⟨by omega, h⟩
    · rintro (h | h)
      · exact .inl (.inl h)
      · exact .inr h.2
  · rw [fset_ne _ h, h1 i hi y]
    constructor
    · rintro (h | h)
      · exact .inl h
      · exact .inr ⟨by omega, h.2⟩
    · rintro (h1 | h1)
      · exact .inl h1
      · exact .inr ⟨by omega, h1.2⟩
theorem m3arr (x0 x1 : Value) {N : Nat} (fm : Nat → Nat) : ∀ q : Nat, q < 3 → q < N → #[x0, x1, mvk N fm 0, mvk N fm 1, mvk N fm 2][2 + (q : Int).toNat * 1]? = some (.map (some (fm q)))
  | 0, _, h => by simp [h]
  | 1, _, h => by simp [mvk, h]
  | 2, _, h => by simp [mvk, h]
  | q + 3, h, _ => by omega
theorem mpk_at {N : Nat} (fm : Nat → Nat) (fl : Nat → List Fl) (cur : List Fl) {q : Nat} (h : q < N) : mpk N fm (fset fl q cur) q = some (fm q, mapO (encs flV (insAll cur))) := by
  rw [mpk, if_pos h, fset_at]
set_option maxHeartbeats 4000000 in
theorem halfOf_ok (s : Season) (B : SeasonB s) (n : Int) (hn : n = 1 ∨ n = 2) (A0 A1 A2 A3 : Option Addr) (c0 c1 c2 c3 : Nat) (h : AH) (R : SeasonR h A0 A1 A2 A3 s) :
    FnT Try.prog 48 #[seasonV A0 A1 A2 A3 c0 c1 c2 c3 s, .int .i64 n] h (fun v h' => HalfR h' s n v) := by
  have hw1 := B.w1
  have hw6 := B.w6
  have bj := B.j3
  refine call_body Try.func48 rfl Try.ntmps48 rfl ?_
  refine xp_seq ?_
  refine xp_region rfl ?_
  refine op_box (v := .agg #[.slice _ _ _, .slice _ _ _, .slice _ _ _, .slice _ _ _]) (cs := [_, _, _, _]) rfl rfl fun b2 hb2 => ?_
  refine wp_norm [_] rfl ?_
  refine op_box (v := .int .i64 _) (cs := [_]) rfl rfl fun b3 hb3 => ?_
  refine wp_norm [_, _] rfl ?_
  refine op_alloc (cs := [_, _, _, _, _]) rfl rfl fun b4 hb4 => ?_
  refine wp_norm [_, _, _] rfl ?_
  refine xp_scope ?_
  refine xp_seq ?_
  refine xp_region rfl ?_
  refine op_makeMap fun b19 hb19 => ?_
  refine wp_norm [_, _, _, _] rfl ?_
  refine op_pure (pv_build (zc := [_, _, _, _, _]) (vs := [(1, .map _)]) (cs := [_, _, _, _, _]) rfl rfl rfl rfl rfl rfl) ?_
  refine op_alloc (cs := [_, _, _, _, _]) rfl rfl fun b5 hb5 => ?_
  refine wp_norm [_, _, _, _, _] rfl ?_
  refine op_storeP 4 (v := .agg #[.slice _ _ _, .map _, .map _, .map _, .map _]) (vs := [_, _, _, _, _]) (c' := [_, _, _, _, _]) rfl rfl rfl rfl rfl rfl rfl rfl rfl ?_
  refine wp_norm [_, _, _, _, _] rfl ?_
  refine xp_seq ?_
  refine xp_region rfl ?_
  refine op_pure (pv_fieldAddr rfl rfl rfl rfl 0 rfl) ?_
  refine op_loadP 0 (v := .slice _ _ _) rfl rfl rfl rfl ?_
  refine op_pure (pv_len rfl rfl) ?_
  refine op_pure (pv_arith rfl (by omega)) ?_
  refine op_alloc (cs := [_]) rfl rfl fun b6 hb6 => ?_
  refine wp_norm [_, _, _, _, _, _] rfl ?_
  refine op_storeP 5 (v := .int .i64 _) (vs := [_]) (c' := [_]) rfl rfl rfl rfl rfl rfl rfl rfl rfl ?_
  refine wp_norm [_, _, _, _, _, _] rfl ?_
  refine xp_seq ?_
  refine xp_seq ?_
  refine xp_region rfl ?_
  refine op_pure (pv_fieldAddr rfl rfl rfl rfl 2 rfl) ?_
  refine op_loadP 0 (v := .slice _ _ _) rfl rfl rfl rfl ?_
  refine op_pure (pv_len rfl rfl) ?_
  refine op_pure (pv_move (v := .int .i64 _) rfl) ?_
  refine xp_block ?_
  refine goes_more ?_
  refine goes_norm [_, _, _, _, _, _, _] rfl ?_
  refine goes_more ?_
  refine goes_norm [_, _, _, _, _, _, _, _] rfl ?_
  refine goes_more ?_
  refine goes_norm [_, _, _, _, _, _, _, _, _] rfl ?_
  refine goes_more ?_
  refine goes_norm [_, _, _, _, _, _, _, _, _, _] rfl ?_
  refine xp_loopB [7, 28, 29, 30, 31, 32, 33, 34, 35] 10 (α := Nat × (Nat → Nat)) (fun ⟨k, fm⟩ => [(28, .int .i64 k)]) (fun ⟨k, fm⟩ => [_, _, _, _, some (b5, .cells #[.slice none 0 0, .map (some b19), mvk k fm 0, mvk k fm 1, mvk k fm 2] 69 (0, 0)), _, mpk k fm (fun _ => []) 0, mpk k fm (fun _ => []) 1, mpk k fm (fun _ => []) 2, none]) (fun ⟨k, fm⟩ h_k => k ≤ s.joints.length) (fun ⟨k, fm⟩ => s.joints.length - k) ((0, fun _ => 0)) ⟨rfl, trivial⟩ (rfl) (Nat.zero_le _) ?_
  rintro ⟨k, fm⟩ T1 h_k E_k J_k
  refine goes_norm [_, _, _, _, _, _, _, _, _, _] rfl ?_
  refine xp_seq ?_
  refine xp_region rfl ?_
  refine op_pure (pv_of (v := .bool _) rfl) ?_
  refine xp_seq ?_
  refine xp_cond rfl (fun ht => ?_) (fun ht => ?_)
  · skip
    have hlt := ltI ht
    refine xp_skip ?_
    refine xp_seq ?_
    refine xp_block ?_
    refine xp_seq ?_
    refine xp_region rfl ?_
    refine op_pure (pv_move (v := .int .i64 _) rfl) ?_
    refine op_pure (pv_assign (v := .int .i64 _) rfl) ?_
    refine xp_region rfl ?_
    refine op_pure (pv_move (v := .int .i64 _) rfl) ?_
    refine op_makeMapF (6 + k) (by match k, (show k < 3 by omega) with | 0, _ => rfl | 1, _ => rfl | 2, _ => rfl) fun b hb => ?_
    refine op_pure (pv_fieldAddr rfl rfl rfl rfl 2 rfl) ?_
    refine op_pure (pv_indexA rfl rfl rfl rfl (by omega) (by omega)) ?_
    refine op_storeP 4 (v := .map _) (vs := [_]) (c := [.slice none 0 0, .map (some b19), mvk k fm 0, mvk k fm 1, mvk k fm 2]) (b := b5) (off := 2 + (k : Int).toNat * 1) (e := 69) (c' := [.slice none 0 0, .map (some b19), mvk (k + 1) (fset fm k b) 0, mvk (k + 1) (fset fm k b) 1, mvk (k + 1) (fset fm k b) 2]) rfl rfl (by match k, (show k < 3 by omega) with | 0, _ => rfl | 1, _ => rfl | 2, _ => rfl) rfl rfl rfl (Nat.ble_eq_true_of_le (show 2 + (k : Int).toNat * 1 + 1 ≤ 5 by omega)) rfl (by match k, (show k < 3 by omega) with | 0, _ => rfl | 1, _ => rfl | 2, _ => rfl) ?_
    refine xp_region rfl ?_
    refine op_pure (pv_arith rfl (by omega)) ?_
    refine op_pure (pv_move (v := .int .i64 _) rfl) ?_
    refine ⟨(k + 1, fset fm k b), ⟨rfl, trivial⟩, rfl, by match k, (show k < 3 by omega) with | 0, _ => rfl | 1, _ => rfl | 2, _ => rfl, E_k, fun h3 E3 => by first | trivial | omega | (refine ⟨?_, ?_⟩ <;> omega), by first | omega | (dsimp only; omega), ?_⟩
    repeat (first | exact off_base _ _ _ | refine off_upd (by decide) ?_ | refine off_updL rfl ?_ | refine off_mix rfl ?_)
  · skip
    have hk : k = s.joints.length := by have := geI ht; omega
    subst hk
    refine xp_exit ?_
    refine xp_seq ?_
    refine xp_label ?_
    refine xp_seq ?_
    refine xp_cutB [36, 37, 38, 39, 40] 10 (α := Value) (fun y => [(40, y)]) (fun y L => L) (fun y h_y => Iter Try.prog y h_y (allSkies s n) skyV) ?_ ?_
    · skip
      refine xp_dw [] rfl rfl rfl ?_
      refine dw_load (i := 0) rfl (by decide +kernel) ?_
      refine op_loadP 1 (v := .int .i64 _) rfl rfl rfl rfl ?_
      refine dw_load (i := 2) rfl (by decide +kernel) ?_
      refine op_loadPA 0 (vs := [.slice _ _ _, .slice _ _ _, .slice _ _ _, .slice _ _ _]) rfl rfl rfl rfl rfl ?_
      refine dw_eff (i := 1) rfl (by decide +kernel) ?_
      refine op_fn (caps := []) (vs := [.int .i64 _]) rfl rfl rfl (kindOf_ok n h_k) ?_
      rintro _ h1 E1 rfl
      refine ⟨ext_wlm E1 _, ?_⟩
      obtain ⟨wl1, wr1⟩ := B.wb n
      have wr2 : ∀ r ∈ weatherM s n, -1000 ≤ r.mn ∧ r.mn ≤ r.mx ∧ r.mx ≤ 1000 := fun r hr => ⟨(wr1 r hr).lo, (wr1 r hr).le, (wr1 r hr).hi⟩
      rcases hn with rfl | rfl
      · skip
        refine dw_last (i := 3) rfl (by decide +kernel) (by decide +kernel) ?_
        refine op_invoke rfl (by kernel_rfl) rfl rfl (waxWeather_ok s A0 A1 A2 A3 c0 c1 c2 c3 h1) ?_
        rintro _ h2 E2 rfl
        refine dw_last (i := 4) rfl (by decide +kernel) (by decide +kernel) ?_
        refine op_fn (caps := []) (vs := [.slice _ _ _]) rfl rfl rfl (skies_ok s.heats B.w6 wr2 A0 c0 h2 (R.heats.ext (Ext.trans (Ext.trans E_k E1) E2))) ?_
        rintro y h3 E3 hy
        refine dw_end rfl ?_
        refine ⟨y, ⟨rfl, trivial⟩, rfl, rfl, (Ext.trans (Ext.trans E1 E2) E3), fun h3 E3 => hy.ext E3, ?_⟩
        repeat (first | exact off_refl _ _ | exact off_base _ _ _ | refine off_upd (by decide) ?_ | refine off_updL rfl ?_ | refine off_mix rfl ?_)
      · skip
        refine dw_last (i := 3) rfl (by decide +kernel) (by decide +kernel) ?_
        refine op_invoke rfl (by kernel_rfl) rfl rfl (leatherWeather_ok s A0 A1 A2 A3 c0 c1 c2 c3 h1) ?_
        rintro _ h2 E2 rfl
        refine dw_last (i := 4) rfl (by decide +kernel) (by decide +kernel) ?_
        refine op_fn (caps := []) (vs := [.slice _ _ _]) rfl rfl rfl (skies_ok s.damps (by rw [B.dl]; exact B.w6) wr2 A1 c1 h2 (R.damps.ext (Ext.trans (Ext.trans E_k E1) E2))) ?_
        rintro y h3 E3 hy
        refine dw_end rfl ?_
        refine ⟨y, ⟨rfl, trivial⟩, rfl, rfl, (Ext.trans (Ext.trans E1 E2) E3), fun h3 E3 => hy.ext E3, ?_⟩
        repeat (first | exact off_refl _ _ | exact off_base _ _ _ | refine off_upd (by decide) ?_ | refine off_updL rfl ?_ | refine off_mix rfl ?_)
    rintro y T2 h_y E_y J_y
    refine goes_norm [_, _, _, _, _, _, _, _, _, _] rfl ?_
    refine xp_block ?_
    refine xp_rangeFunc rfl ?_
    intro r l lp ht hp has hbd V0
    refine CallV.mono (J_y (.yield l) #[] #[] (HalfI s n b2 b3 b4 b19 b5 b6 A0 A1 A2 A3 c0 c1 c2 c3 fm l lp h_y) (fun k h1 h2 M E I => HalfI.ext I E) ?_ h_y _ (Ext.refl _) ⟨Ext.refl _, acc0, fun _ => [], rfl, accR0, fun i hi y => by simp [flsK, okK]⟩ V0) ?_ (fun _ _ y => y)
    · intro k x hc M hx I
      obtain ⟨E0, a, fl, rfl, ha, hfl⟩ := I
      have Rc := R.ext (Ext.trans (Ext.trans E_k E_y) E0)
      intro V
      refine callV_yield (wl_get V (i := 10) rfl) hp rfl ht has hbd ?_
      refine round_enter (i := 10) (r := lp) ?_ V
      refine xp_region rfl ?_
      refine op_alloc (cs := [_, _, _, _, _, _]) rfl rfl fun b8 hb8 => ?_
      refine wp_norm [_, _, _, _, _, _, _, _, _, _, _, _] rfl ?_
      refine op_storeP 11 (v := .agg #[.int .i64 _, .int .i64 _, .int .i64 _, .int .i64 _, .int .i64 _, .int .i64 _]) (vs := [_, _, _, _, _, _]) (c' := [_, _, _, _, _, _]) rfl rfl rfl rfl rfl rfl rfl rfl rfl ?_
      refine wp_norm [_, _, _, _, _, _, _, _, _, _, _, _] rfl ?_
      refine ⟨rfl, none, rfl, ?_⟩
      refine goes_norm [_, _, _, _, _, _, _, _, _, _, _, _] rfl ?_
      refine xp_block ?_
      refine xp_seq ?_
      refine xp_region rfl ?_
      refine op_alloc (cs := [_, _, _]) rfl rfl fun b9 hb9 => ?_
      refine wp_norm [_, _, _, _, _, _, _, _, _, _, _, _, _] rfl ?_
      refine xp_seq ?_
      refine xp_region rfl ?_
      refine op_alloc (cs := [_, _, _]) rfl rfl fun b10 hb10 => ?_
      refine wp_norm [_, _, _, _, _, _, _, _, _, _, _, _, _, _] rfl ?_
      refine xp_seq ?_
      refine xp_seq ?_
      refine xp_region rfl ?_
      refine op_pure (pv_fieldAddr rfl rfl rfl rfl 2 rfl) ?_
      refine op_loadP 0 (v := .slice _ _ _) rfl rfl rfl rfl ?_
      refine op_pure (pv_len rfl rfl) ?_
      refine op_pure (pv_move (v := .int .i64 _) rfl) ?_
      refine xp_block ?_
      refine goes_more ?_
      refine goes_norm [_, _, _, _, _, _, _, _, _, _, _, _, _, _, _] rfl ?_
      refine goes_more ?_
      refine goes_norm [_, _, _, _, _, _, _, _, _, _, _, _, _, _, _, _] rfl ?_
      refine goes_more ?_
      refine goes_norm [_, _, _, _, _, _, _, _, _, _, _, _, _, _, _, _, _] rfl ?_
      refine xp_loopB [11, 12, 13, 45, 46, 47, 48, 49, 50, 51, 52, 53, 54, 55, 56, 57, 58, 59, 60, 61, 62, 63, 64, 65, 66, 67, 68, 69, 70, 71, 72, 73, 74, 75, 76, 77, 78, 79, 80, 81, 82, 83, 84, 85, 86, 87, 88, 89] 17 (α := Nat × (Nat → Nat) × (Nat → Acc) × (Nat → List Fl)) (fun ⟨i, F, AC, Ls⟩ => [(45, .int .i64 i)]) (fun ⟨i, F, AC, Ls⟩ => [_, _, _, _, _, _, _, _, _, _, _, _, some (b9, .cells #[.int .u64 (F 0 : Nat), .int .u64 (F 1 : Nat), .int .u64 (F 2 : Nat)] 91 (0, 0)), some (b10, .cells #[(AC 0).v, (AC 1).v, (AC 2).v] 137 (0, 0)), (AC 0).p, (AC 1).p, (AC 2).p]) (fun ⟨i, F, AC, Ls⟩ h_i => BodyJ s n x i F AC Ls) (fun ⟨i, F, AC, Ls⟩ => s.joints.length - i) ((0, fun _ => 0, fun _ => acc0, fun _ => [])) ⟨rfl, trivial⟩ (rfl) (BodyJ.zero s n x) ?_
      rintro ⟨i, F, AC, Ls⟩ T3 h_i E_i J_i
      refine goes_norm [_, _, _, _, _, _, _, _, _, _, _, _, _, _, _, _, _] rfl ?_
      refine xp_seq ?_
      refine xp_region rfl ?_
      refine op_pure (pv_of (v := .bool _) rfl) ?_
      refine xp_seq ?_
      refine xp_cond rfl (fun hti => ?_) (fun hti => ?_)
      · skip
        have hlt := ltI hti
        have hj3 : i < 3 := by omega
        have JB := B.jb s.joints[i] (List.getElem_mem hlt)
        have hji : s.joints[i]? = some s.joints[i] := List.getElem?_eq_getElem hlt
        have hka : kindAt s i = s.joints[i].kind := by simp [kindAt, hji]
        obtain ⟨g, off, hA2, hcj⟩ := (Rc.joints.ext E_i).at (by omega) hlt
        refine xp_skip ?_
        refine xp_seq ?_
        refine xp_block ?_
        refine xp_seq ?_
        refine xp_region rfl ?_
        refine op_pure (pv_move (v := .int .i64 _) rfl) ?_
        refine op_pure (pv_indexE rfl hA2 rfl rfl rfl (by omega) (by omega)) ?_
        refine op_loadA rfl rfl rfl rfl (hcj) ?_
        refine op_alloc (cs := [_, _, _, _, _, _, _, _, _]) rfl rfl fun b12 hb12 => ?_
        refine wp_norm [_, _, _, _, _, _, _, _, _, _, _, _, _, _, _, _, _, _] rfl ?_
        refine op_pure (pv_assign (v := .int .i64 _) rfl) ?_
        refine op_storeP 17 (v := .agg #[.int .i64 _, .int .i64 _, .int .i64 _, .int .i64 _, .int .i64 _, .int .i64 _, .int .i64 _, .int .i64 _, .int .i64 _]) (vs := [_, _, _, _, _, _, _, _, _]) (c' := [_, _, _, _, _, _, _, _, _]) rfl rfl rfl rfl rfl rfl rfl rfl rfl ?_
        refine wp_norm [_, _, _, _, _, _, _, _, _, _, _, _, _, _, _, _, _, _] rfl ?_
        refine xp_seq ?_
        refine xp_seq ?_
        refine xp_region rfl ?_
        refine op_pure (pv_fieldAddr rfl rfl rfl rfl 0 rfl) ?_
        refine op_loadP 17 (v := .int .i64 _) rfl rfl rfl rfl ?_
        refine op_loadP 1 (v := .int .i64 _) rfl rfl rfl rfl ?_
        refine op_pure (pv_of (v := .bool _) rfl) ?_
        refine xp_cond rfl (fun hkn => ?_) (fun hkn => ?_)
        · skip
          have hkn' : s.joints[i].kind ≠ n := by simpa using hkn
          refine xp_exit ?_
          refine xp_region rfl ?_
          refine op_pure (pv_arith rfl (by omega)) ?_
          refine op_pure (pv_move (v := .int .i64 _) rfl) ?_
          refine ⟨(i + 1, F, AC, Ls), ⟨rfl, trivial⟩, rfl, rfl, E_i, fun h3 E3 => BodyJ.skip J_i hlt (by rw [hka]; exact hkn'), by first | omega | (dsimp only; omega), ?_⟩
          repeat (first | exact off_base _ _ _ | refine off_upd (by decide) ?_ | refine off_updL rfl ?_ | refine off_mix rfl ?_)
        · skip
          have hkn' : s.joints[i].kind = n := by simpa using hkn
          refine xp_skip ?_
          refine xp_seq ?_
          refine xp_seq ?_
          refine xp_region rfl ?_
          refine op_loadPA 17 (vs := [.int .i64 _, .int .i64 _, .int .i64 _, .int .i64 _, .int .i64 _, .int .i64 _, .int .i64 _, .int .i64 _, .int .i64 _]) rfl rfl rfl rfl rfl ?_
          refine op_loadPA 11 (vs := [.int .i64 _, .int .i64 _, .int .i64 _, .int .i64 _, .int .i64 _, .int .i64 _]) rfl rfl rfl rfl rfl ?_
          refine op_loadP 5 (v := .int .i64 _) rfl rfl rfl rfl ?_
          refine op_fn (caps := []) (vs := [.agg #[.int .i64 _, .int .i64 _, .int .i64 _, .int .i64 _, .int .i64 _, .int .i64 _, .int .i64 _, .int .i64 _, .int .i64 _], .agg #[.int .i64 _, .int .i64 _, .int .i64 _, .int .i64 _, .int .i64 _, .int .i64 _], .int .i64 _]) rfl rfl rfl (failures_ok s.joints[i] x s.heats.length hw1 hw6 _ rfl JB h_i) ?_
          rintro _ h1 E1 ⟨mm, rfl, hmm⟩
          refine op_range rfl rfl (fun V => ext_wl V _ _ hmm) fun it58 hit58 => ?_
          refine wp_norm [_, _, _, _, _, _, _, _, _, _, _, _, _, _, _, _, _, _, _] rfl ?_
          refine xp_block ?_
          refine xp_loopL [13, 59, 60, 61, 62, 63, 64, 65, 66, 67, 68, 69, 70, 71, 72, 73, 74, 75, 76, 77, 78, 79, 80, 81, 82, 83, 84] 19 (α := List Nat × Nat × Acc × List Fl) (fun ⟨sn, m, a', la⟩ => []) (fun ⟨sn, m, a', la⟩ L => (((((L.set 12 (some (b9, .cells #[.int .u64 (fset F i m 0 : Nat), .int .u64 (fset F i m 1 : Nat), .int .u64 (fset F i m 2 : Nat)] 91 (0, 0)))).set 13 (some (b10, .cells #[(fset AC i a' 0).v, (fset AC i a' 1).v, (fset AC i a' 2).v] 137 (0, 0)))).set 14 ((fset AC i a' 0).p)).set 15 ((fset AC i a' 1).p)).set 16 ((fset AC i a' 2).p)).set 18 (some (it58, iterO mm (encs flV (insAll (failuresM s.joints[i] x s.heats.length))).length sn))) (fun ⟨sn, m, a', la⟩ h_sn => InnerJ 117 s i (insAll (failuresM s.joints[i] x s.heats.length)) sn m a' la) (fun ⟨sn, m, a', la⟩ => (insAll (failuresM s.joints[i] x s.heats.length)).length - sn.length) (([], F i, AC i, Ls i)) trivial (by dsimp only; rw [fset_self, fset_self]; rfl) (J_i.inner) ?_
          rintro ⟨sn, m, a', la⟩ T4 h_sn E_sn J_sn
          refine goes_norm [_, _, _, _, _, _, _, _, _, _, _, _, _, _, _, _, _, _, _] rfl ?_
          have hmm2 := E_sn _ _ hmm
          refine xp_seq ?_
          refine xp_region rfl ?_
          refine op_next 18 rfl rfl (fun V => ext_wl V _ _ hmm2) ?_ ?_
          · intro jx p hp hjn
            obtain ⟨y, v, hy, rfl⟩ := encs_get hp
            have hyw : y.week ≤ 6 := by
              have := failuresM_week ((insAll_get y).1 ⟨jx, v, hy⟩)
              omega
            have hsl := J_sn.snlen
            have hlen5 := failuresM_len JB x s.heats.length
            have hins := insAll_len (failuresM s.joints[i] x s.heats.length)
            have hsn2 : sn.length + 1 ≤ (insAll (failuresM s.joints[i] x s.heats.length)).length := by
              have := nodup_len (insAll (failuresM s.joints[i] x s.heats.length)).length _ (snoc_nodup J_sn.nd hjn) (fun k hk => by
                rcases List.mem_append.1 hk with h | h
                · exact J_sn.lt k h
                · simp at h; subst h; exact (List.getElem?_eq_some_iff.1 hy).1)
              simpa using this
            have hsl2 : (sn ++ [jx]).length = sn.length + 1 := by simp
            refine op_pure (pv_of (v := .bool _) rfl) ?_
            refine xp_seq ?_
            refine xp_condT rfl (rfl) ?_
            refine xp_skip ?_
            refine xp_block ?_
            refine xp_seq ?_
            refine xp_region rfl ?_
            refine op_entry 18 rfl rfl (fun V => ext_wl V _ _ hmm2) hp ?_
            refine op_pure (pv_of (v := .agg #[.int .i64 _, .int .i64 _]) rfl) ?_
            refine op_alloc (cs := [_, _]) rfl rfl fun b13 hb13 => ?_
            refine wp_norm [_, _, _, _, _, _, _, _, _, _, _, _, _, _, _, _, _, _, _, _] rfl ?_
            refine op_storeP 19 (v := .agg #[.int .i64 _, .int .i64 _]) (vs := [_, _]) (c' := [_, _]) rfl rfl rfl rfl rfl rfl rfl rfl rfl ?_
            refine wp_norm [_, _, _, _, _, _, _, _, _, _, _, _, _, _, _, _, _, _, _, _] rfl ?_
            refine xp_seq ?_
            refine xp_dw [] rfl rfl rfl ?_
            refine dw_load (i := 0) rfl (by decide +kernel) ?_
            refine op_loadPA 0 (vs := [.slice _ _ _, .slice _ _ _, .slice _ _ _, .slice _ _ _]) rfl rfl rfl rfl rfl ?_
            refine dw_pure (i := 1) rfl (by decide +kernel) (pv_move (v := .int .i64 _) rfl) ?_
            refine dw_pure (i := 3) rfl (by decide +kernel) (pv_fieldAddr rfl rfl rfl rfl 0 rfl) ?_
            refine dw_load (i := 4) rfl (by decide +kernel) ?_
            refine op_loadP 19 (v := .int .i64 _) rfl rfl rfl rfl ?_
            refine dw_eff (i := 2) rfl (by decide +kernel) ?_
            refine op_fn (caps := []) (vs := [.agg #[.slice _ _ _, .slice _ _ _, .slice _ _ _, .slice _ _ _], .int .i64 _]) rfl rfl rfl (told_ok s A0 A1 A2 A3 c0 c1 c2 c3 i h_sn (Rc.ext (Ext.trans (Ext.trans E_i E1) E_sn)) hw6 B.rw B.rl) ?_
            rintro _ h2 E2 rfl
            refine ⟨ext_wlm E2 _, ?_⟩
            refine dw_last (i := 5) rfl (by decide +kernel) (by decide +kernel) ?_
            refine op_fn (caps := []) (vs := [.int .u64 _, .int .i64 _]) rfl rfl rfl (has_ok (toldW s i) _ y.week rfl (toldW_lt s hw6 i) (by omega) h2) ?_
            rintro _ h3 E3 rfl
            refine dw_end rfl ?_
            refine xp_cond rfl (fun hto => ?_) (fun hto => ?_)
            · skip
              refine xp_seq ?_
              refine xp_dw [] rfl rfl rfl ?_
              refine dw_pure (i := 0) rfl (by decide +kernel) (pv_move (v := .int .i64 _) rfl) ?_
              refine dw_pure (i := 1) rfl (by decide +kernel) (pv_move (v := .int .i64 _) rfl) ?_
              refine dw_pure (i := 2) rfl (by decide +kernel) (pv_indexA rfl rfl rfl rfl (by omega) (by omega)) ?_
              refine dw_load (i := 3) rfl (by decide +kernel) ?_
              refine op_loadP 12 (v := .int .u64 (m : Nat)) rfl rfl rfl (f3arr F m i hj3) ?_
              refine dw_pure (i := 4) rfl (by decide +kernel) (pv_fieldAddr rfl rfl rfl rfl 0 rfl) ?_
              refine dw_load (i := 5) rfl (by decide +kernel) ?_
              refine op_loadP 19 (v := .int .i64 _) rfl rfl rfl rfl ?_
              refine dw_last (i := 6) rfl (by decide +kernel) (by decide +kernel) ?_
              refine op_fn (caps := []) (vs := [.int .u64 _, .int .i64 _]) rfl rfl rfl (with_ok m _ y.week rfl J_sn.small (by omega) h3) ?_
              rintro _ h4 E4 rfl
              refine dw_pure (i := 7) rfl (by decide +kernel) (pv_indexA rfl rfl rfl rfl (by omega) (by omega)) ?_
              refine dw_last (i := 8) rfl (by decide +kernel) (by decide +kernel) ?_
              refine op_storeP 12 (v := .int .u64 _) (vs := [_]) (b := b9) (off := 0 + (i : Int).toNat * 1) rfl rfl rfl rfl rfl rfl (Nat.ble_eq_true_of_le (show 0 + (i : Int).toNat * 1 + 1 ≤ 3 by omega)) rfl (f3wr F m (withM m y.week) i hj3) ?_
              refine dw_norm [_, _, _, _, _, _, _, _, _, _, _, _, _, _, _, _, _, _, _, _] rfl ?_
              refine dw_end rfl ?_
              refine xp_dw [] rfl rfl rfl ?_
              refine dw_pure (i := 0) rfl (by decide +kernel) (pv_move (v := .int .i64 _) rfl) ?_
              refine dw_pure (i := 1) rfl (by decide +kernel) (pv_move (v := .int .i64 _) rfl) ?_
              refine dw_pure (i := 2) rfl (by decide +kernel) (pv_indexA rfl rfl rfl rfl (by omega) (by omega)) ?_
              refine dw_load (i := 3) rfl (by decide +kernel) ?_
              refine op_loadP 13 (v := .slice _ _ _) rfl rfl rfl (a3arr AC a' i hj3) ?_
              refine dw_load (i := 4) rfl (by decide +kernel) ?_
              refine op_loadPA 19 (vs := [.int .i64 _, .int .i64 _]) rfl rfl rfl rfl rfl ?_
              refine dw_eff (i := 5) rfl (by decide +kernel) ?_
              refine op_buildSlice (zc := [_, _]) (vs := [(0, .agg #[.int .i64 _, .int .i64 _])]) (cs := [_, _]) rfl rfl rfl rfl rfl rfl rfl fun b82 hb82 => ?_
              refine ⟨ext_new hb82 _, ?_⟩
              refine dw_norm [_, _, _, _, _, _, _, _, _, _, _, _, _, _, _, _, _, _, _, _, _] rfl ?_
              refine dw_last (i := 6) rfl (by decide +kernel) (by decide +kernel) ?_
              refine op_appendR (14 + i) (a := a') J_sn.acc rfl (by match i, hj3 with | 0, _ => rfl | 1, _ => rfl | 2, _ => rfl) rfl (fun V => rdP V (i := 20) rfl) rfl rfl rfl rfl rfl rfl rfl rfl rfl (by omega) rfl (by have := J_sn.len; rw [flat_len (m := 2) (fun _ _ => rfl)]; simp; omega) fun a2 h5 E5 ha2 => ?_
              refine dw_norm _ (setAcc _ 14 AC i hj3 a' a2 rfl rfl rfl) ?_
              refine dw_norm [_, _, _, _, _, _, _, _, _, _, _, _, _, _, _, _, _, _, _, _, _] rfl ?_
              refine dw_pure (i := 7) rfl (by decide +kernel) (pv_indexA rfl rfl rfl rfl (by omega) (by omega)) ?_
              refine dw_last (i := 8) rfl (by decide +kernel) (by decide +kernel) ?_
              refine op_storeP 13 (v := .slice _ _ _) (vs := [_]) (b := b10) (off := 0 + (i : Int).toNat * 1) rfl rfl rfl rfl rfl rfl (Nat.ble_eq_true_of_le (show 0 + (i : Int).toNat * 1 + 1 ≤ 3 by omega)) rfl (a3wr AC a' a2 i hj3) ?_
              refine dw_norm [_, _, _, _, _, _, _, _, _, _, _, _, _, _, _, _, _, _, _, _, _] rfl ?_
              refine dw_end rfl ?_
              refine ⟨(sn ++ [jx], withM m y.week, a2, la ++ [y]), trivial, rfl, rfl, (Ext.trans (Ext.trans (Ext.trans (Ext.trans E_sn E2) E3) E4) E5), fun h3 E3 => J_sn.yes hy hjn hto (by omega) ha2, by first | omega | (dsimp only; omega), ?_⟩
              repeat (first | exact off_base _ _ _ | refine off_upd (by decide) ?_ | refine off_updL rfl ?_ | refine off_mix rfl ?_)
            · skip
              refine xp_skip ?_
              refine ⟨(sn ++ [jx], m, a', la), trivial, rfl, rfl, (Ext.trans (Ext.trans E_sn E2) E3), fun h3 E3 => J_sn.no hy hjn hto, by first | omega | (dsimp only; omega), ?_⟩
              repeat (first | exact off_base _ _ _ | refine off_upd (by decide) ?_ | refine off_updL rfl ?_ | refine off_mix rfl ?_)
          · intro hall
            obtain ⟨hm1, hm2⟩ := J_sn.all hji hkn' (fun k hk => hall k (by simpa [encs] using hk))
            have hsl := J_sn.snlen
            have hlen5 := failuresM_len JB x s.heats.length
            have hins := insAll_len (failuresM s.joints[i] x s.heats.length)
            refine op_pure (pv_of (v := .bool _) rfl) ?_
            refine xp_seq ?_
            refine xp_condF rfl (rfl) ?_
            refine xp_exit ?_
            refine xp_seq ?_
            refine xp_region rfl ?_
            refine op_pure (pv_move (v := .int .i64 _) rfl) ?_
            refine op_pure (pv_indexA rfl rfl rfl rfl (by omega) (by omega)) ?_
            refine op_loadP 12 (v := .int .u64 (m : Nat)) rfl rfl rfl (f3arr F m i hj3) ?_
            refine op_pure (pv_of (v := .bool _) rfl) ?_
            refine xp_cond rfl (fun hz => ?_) (fun hz => ?_)
            · skip
              have hz0 : m = 0 := by simpa using hz
              have hno : okM s n x = false := not_okM hlt (by rw [hka]; exact hkn') (by rw [← hm1]; exact hz0)
              have okk := okK_succ hx
              rw [if_neg (by simp [hno])] at okk
              have e1 : fatesK s n (k + 1) = fatesK s n k := by unfold fatesK; rw [okk]
              have e2 : skK s n (k + 1) = skK s n k := by unfold skK; rw [okk]
              have e3 : ∀ i, flsK s n i (k + 1) = flsK s n i k := by intro i; unfold flsK; rw [okk]
              refine xp_exit ?_
              intro V2
              refine ⟨rfl, ⟨_, _, rfl⟩, ?_⟩
              have V3 := valid_set (o' := obL lp .ready none) V2 (i := 10) rfl
              obtain ⟨h9, E9, e9, V9⟩ := wl_drop [_, _, _, _, _, _, _, _] [_, _, _, _, _, _, _, _, _, _, _] V3
              refine ⟨h9, _, e9, V9, Ext.trans (Ext.trans (Ext.trans E_i E1) E_sn) E9, rfl, Ext.trans (Ext.trans E0 (Ext.trans (Ext.trans E_i E1) E_sn)) E9, a, fl, by rw [e1], by rw [e2]; exact ha, fun i hi y => by rw [e3]; exact hfl i hi y⟩
            · skip
              have hz0 : m ≠ 0 := by simpa using hz
              refine xp_skip ?_
              refine xp_region rfl ?_
              refine op_pure (pv_arith rfl (by omega)) ?_
              refine op_pure (pv_move (v := .int .i64 _) rfl) ?_
              refine ⟨(i + 1, fset F i m, fset AC i a', fset Ls i la), ⟨rfl, trivial⟩, rfl, rfl, (Ext.trans (Ext.trans E_i E1) E_sn), fun h3 E3 => J_i.step hlt hm1 hz0 hm2 J_sn.acc (by have := J_sn.len; omega), by first | omega | (dsimp only; omega), ?_⟩
              repeat (first | exact off_base _ _ _ | refine off_upd (by decide) ?_ | refine off_updL rfl ?_ | refine off_mix rfl ?_)
      · skip
        have hi : i = s.joints.length := by have := geI hti; have := J_i.le; omega
        subst hi
        have hok : okM s n x = true := J_i.ok
        have okk := okK_succ hx
        rw [if_pos hok] at okk
        have hn6 : (skK s n k).length = a.n := by have := ha.len; rw [flat_len (m := 6) (fun _ _ => rfl)] at this; omega
        have hn7 := skK_len B n k
        refine xp_exit ?_
        refine xp_cutB [14, 90, 91, 92, 93, 94, 95, 96, 97, 98, 99, 100, 101, 102, 103, 104, 105, 106, 107, 108, 109, 110] 17 (α := Acc) (fun a2 => []) (fun a2 L => (L.set 4 (some (b5, .cells #[.slice a2.A a2.n a2.c, .map (some b19), mvk s.joints.length fm 0, mvk s.joints.length fm 1, mvk s.joints.length fm 2] 69 (0, 0)))).set 9 (a2.p)) (fun a2 h_a2 => AccR 135 6 ((skK s n (k + 1)).flatMap skyC) a2) ?_ ?_
        · skip
          refine xp_seq ?_
          refine xp_region rfl ?_
          refine op_pure (pv_fieldAddr rfl rfl rfl rfl 0 rfl) ?_
          refine op_loadP 4 (v := .slice _ _ _) rfl rfl rfl rfl ?_
          refine op_pure (pv_len rfl rfl) ?_
          refine op_pure (pv_assign (v := .int .i64 _) rfl) ?_
          refine xp_seq ?_
          refine xp_dw [] rfl rfl rfl ?_
          refine dw_pure (i := 0) rfl (by decide +kernel) (pv_move (v := .int .i64 _) rfl) ?_
          refine dw_pure (i := 1) rfl (by decide +kernel) (pv_of (v := .bool _) rfl) ?_
          refine dw_pure (i := 2) rfl (by decide +kernel) (pv_move (v := .bool _) rfl) ?_
          by_cases hemp : skK s n k = []
          · have hn0 : a.n = 0 := by rw [← hn6, hemp]; rfl
            have hg : decide ((a.n : Int) = 0) = true := by rw [hn0]; rfl
            have hsk : skK s n (k + 1) = skK s n k ++ [x] := by
              rw [skK_succ okk, pushSky, hemp]
              rfl
            refine dw_skip (i := 3) rfl (by decide +kernel) rfl hg ?_
            refine dw_skip (i := 4) rfl (by decide +kernel) rfl hg ?_
            refine dw_skip (i := 5) rfl (by decide +kernel) rfl hg ?_
            refine dw_skip (i := 6) rfl (by decide +kernel) rfl hg ?_
            refine dw_skip (i := 7) rfl (by decide +kernel) rfl hg ?_
            refine dw_skip (i := 8) rfl (by decide +kernel) rfl hg ?_
            refine dw_skip (i := 9) rfl (by decide +kernel) rfl hg ?_
            refine dw_skip (i := 10) rfl (by decide +kernel) rfl hg ?_
            refine dw_pure (i := 11) rfl (by decide +kernel) (pv_pickT rfl hg (v := .bool _) rfl) ?_
            refine dw_end rfl ?_
            refine xp_condT rfl (rfl) ?_
            refine xp_region rfl ?_
            refine op_pure (pv_fieldAddr rfl rfl rfl rfl 0 rfl) ?_
            refine op_loadP 4 (v := .slice _ _ _) rfl rfl rfl rfl ?_
            refine op_loadPA 11 (vs := [.int .i64 _, .int .i64 _, .int .i64 _, .int .i64 _, .int .i64 _, .int .i64 _]) rfl rfl rfl rfl rfl ?_
            refine op_buildSlice (zc := [_, _, _, _, _, _]) (vs := [(0, .agg #[.int .i64 _, .int .i64 _, .int .i64 _, .int .i64 _, .int .i64 _, .int .i64 _])]) (cs := [_, _, _, _, _, _]) rfl rfl rfl rfl rfl rfl rfl fun b108 hb108 => ?_
            refine wp_norm [_, _, _, _, _, _, _, _, _, _, _, _, _, _, _, _, _, _] rfl ?_
            refine op_appendR 9 ha rfl rfl rfl (fun V => rdP V (i := 17) rfl) rfl rfl rfl rfl rfl rfl rfl rfl rfl (by omega) rfl (by rw [flat_len (m := 6) (fun _ _ => rfl)]; simp; omega) fun a2 h6a E6a ha2 => ?_
            refine wp_norm [_, _, _, _, _, _, _, _, _, _, _, _, _, _, _, _, _, _] rfl ?_
            refine op_pure (pv_fieldAddr rfl rfl rfl rfl 0 rfl) ?_
            refine op_storeP 4 (v := .slice _ _ _) (vs := [_]) (c' := [_, _, _, _, _]) rfl rfl rfl rfl rfl rfl rfl rfl rfl ?_
            refine wp_norm [_, _, _, _, _, _, _, _, _, _, _, _, _, _, _, _, _, _] rfl ?_
            refine ⟨a2, trivial, rfl, rfl, E6a, fun h3 E3 => by rw [hsk, List.flatMap_append]; exact ha2, ?_⟩
            repeat (first | exact off_refl _ _ | exact off_base _ _ _ | refine off_upd (by decide) ?_ | refine off_updL rfl ?_ | refine off_mix rfl ?_)
          · have hn0 : 0 < (skK s n k).length := by cases hsk : skK s n k with | nil => exact absurd hsk hemp | cons _ _ => simp
            have hg : decide ((a.n : Int) = 0) = false := by simp; omega
            have hlast : (skK s n k).length - 1 < (skK s n k).length := by omega
            obtain ⟨gs, hAs, hcs⟩ := ha.at (fun _ _ => rfl) (by omega) hlast
            have hix : ((a.n : Int) - 1).toNat = (skK s n k).length - 1 := by omega
            have hgl : (skK s n k).getLast? = some (skK s n k)[(skK s n k).length - 1] := by rw [List.getLast?_eq_getElem?, List.getElem?_eq_getElem hlast]
            refine dw_pureG (i := 3) rfl (by decide +kernel) rfl hg (pv_fieldAddr rfl rfl rfl rfl 0 rfl) ?_
            refine dw_loadG (i := 4) rfl (by decide +kernel) rfl hg ?_
            refine op_loadP 4 (v := .slice _ _ _) rfl rfl rfl rfl ?_
            refine dw_pureG (i := 5) rfl (by decide +kernel) rfl hg (pv_move (v := .int .i64 _) rfl) ?_
            refine dw_pureG (i := 6) rfl (by decide +kernel) rfl hg (pv_arith rfl (by omega)) ?_
            refine dw_pureG (i := 7) rfl (by decide +kernel) rfl hg (pv_indexE rfl hAs rfl rfl rfl (by omega) (by omega)) ?_
            refine dw_loadG (i := 8) rfl (by decide +kernel) rfl hg ?_
            refine op_loadW (cs := skyC (skK s n k)[(skK s n k).length - 1]) rfl rfl rfl rfl (fun V => by rw [hix]; exact hcs _ _ 9 rfl V) ?_
            refine dw_loadG (i := 9) rfl (by decide +kernel) rfl hg ?_
            refine op_loadPA 11 (vs := [.int .i64 _, .int .i64 _, .int .i64 _, .int .i64 _, .int .i64 _, .int .i64 _]) rfl rfl rfl rfl rfl ?_
            refine dw_pureG (i := 10) rfl (by decide +kernel) rfl hg (pv_neA rfl rfl (by kernel_rfl) (skyEq _ _)) ?_
            refine dw_pure (i := 11) rfl (by decide +kernel) (pv_pickF rfl hg (v := .bool _) rfl) ?_
            refine dw_end rfl ?_
            refine xp_cond rfl (fun hne => ?_) (fun hne => ?_)
            · skip
              have hsk : skK s n (k + 1) = skK s n k ++ [x] := by
                have hne2 : ¬ some (skK s n k)[(skK s n k).length - 1] = some x := fun e => by
                  have := Option.some.inj e
                  simp [this] at hne
                rw [skK_succ okk, pushSky, hgl, if_neg hne2]
              refine xp_region rfl ?_
              refine op_pure (pv_fieldAddr rfl rfl rfl rfl 0 rfl) ?_
              refine op_loadP 4 (v := .slice _ _ _) rfl rfl rfl rfl ?_
              refine op_loadPA 11 (vs := [.int .i64 _, .int .i64 _, .int .i64 _, .int .i64 _, .int .i64 _, .int .i64 _]) rfl rfl rfl rfl rfl ?_
              refine op_buildSlice (zc := [_, _, _, _, _, _]) (vs := [(0, .agg #[.int .i64 _, .int .i64 _, .int .i64 _, .int .i64 _, .int .i64 _, .int .i64 _])]) (cs := [_, _, _, _, _, _]) rfl rfl rfl rfl rfl rfl rfl fun b108_1 hb108_1 => ?_
              refine wp_norm [_, _, _, _, _, _, _, _, _, _, _, _, _, _, _, _, _, _] rfl ?_
              refine op_appendR 9 ha rfl rfl rfl (fun V => rdP V (i := 17) rfl) rfl rfl rfl rfl rfl rfl rfl rfl rfl (by omega) rfl (by rw [flat_len (m := 6) (fun _ _ => rfl)]; simp; omega) fun a2 h7a E7a ha2 => ?_
              refine wp_norm [_, _, _, _, _, _, _, _, _, _, _, _, _, _, _, _, _, _] rfl ?_
              refine op_pure (pv_fieldAddr rfl rfl rfl rfl 0 rfl) ?_
              refine op_storeP 4 (v := .slice _ _ _) (vs := [_]) (c' := [_, _, _, _, _]) rfl rfl rfl rfl rfl rfl rfl rfl rfl ?_
              refine wp_norm [_, _, _, _, _, _, _, _, _, _, _, _, _, _, _, _, _, _] rfl ?_
              refine ⟨a2, trivial, rfl, rfl, E7a, fun h3 E3 => by rw [hsk, List.flatMap_append]; exact ha2, ?_⟩
              repeat (first | exact off_refl _ _ | exact off_base _ _ _ | refine off_upd (by decide) ?_ | refine off_updL rfl ?_ | refine off_mix rfl ?_)
            · skip
              have hsk : skK s n (k + 1) = skK s n k := by
                have hne2 : (skK s n k)[(skK s n k).length - 1] = x := by simpa using hne
                rw [skK_succ okk, pushSky, hgl, if_pos (by rw [hne2])]
              refine xp_skip ?_
              refine ⟨a, trivial, rfl, rfl, (Ext.refl _), fun h3 E3 => by rw [hsk]; exact ha, ?_⟩
              repeat (first | exact off_refl _ _ | exact off_base _ _ _ | refine off_upd (by decide) ?_ | refine off_updL rfl ?_ | refine off_mix rfl ?_)
        rintro a2 T5 h_a2 E_a2 J_a2
        refine goes_norm [_, _, _, _, _, _, _, _, _, _, _, _, _, _, _, _, _] rfl ?_
        refine xp_seq ?_
        refine xp_region rfl ?_
        refine op_pure (pv_fieldAddr rfl rfl rfl rfl 1 rfl) ?_
        refine op_loadP 4 (v := .map _) rfl rfl rfl rfl ?_
        refine op_loadPA 12 (vs := [.int .u64 _, .int .u64 _, .int .u64 _]) rfl rfl rfl rfl rfl ?_
        refine op_mapUpdate 3 (a := fateOf s n x) (v := .bool true) fateK rfl rfl (BodyJ.fate J_i) rfl rfl ?_
        refine wp_norm [_, _, _, _, _, _, _, _, _, _, _, _, _, _, _, _, _] rfl ?_
        refine goes_pubO 14 rfl ?_
        intro q0 Q0 P0
        refine goes_norm [_, _, _, _, _, _, _, _, _, _, _, _, _, _, _, _, _] rfl ?_
        refine goes_pubO 15 rfl ?_
        intro q1 Q1 P1
        refine goes_norm [_, _, _, _, _, _, _, _, _, _, _, _, _, _, _, _, _] rfl ?_
        refine goes_pubO 16 rfl ?_
        intro q2 Q2 P2
        refine goes_norm [_, _, _, _, _, _, _, _, _, _, _, _, _, _, _, _, _] rfl ?_
        have RL : ∀ q, q < 3 → Row q2 2 flC (AC q).A (Ls q) := fun q hq => ⟨fun _ _ => rfl, (J_i.acc q).rd (fun b o e => by
          match q, hq with
          | 0, _ => exact Q2 _ _ (Q1 _ _ (P0 b o e))
          | 1, _ => exact Q2 _ _ (P1 b o e)
          | 2, _ => exact P2 b o e)⟩
        have LL : ∀ q, (Ls q).length = (AC q).n := fun q => by have := (J_i.acc q).len; rw [flat_len (m := 2) (fun _ _ => rfl)] at this; omega
        refine xp_seq ?_
        refine xp_region rfl ?_
        refine op_loadPA 13 (vs := [.slice _ _ _, .slice _ _ _, .slice _ _ _]) rfl rfl rfl rfl rfl ?_
        refine op_pure (pv_move (v := .int .i64 _) rfl) ?_
        refine xp_block ?_
        refine xp_loopL [15, 16, 18, 115, 116, 117, 118, 119, 120, 121, 122, 123, 124, 125, 126, 127, 128, 129, 130, 131] 17 (α := Nat × (Nat → List Fl)) (fun ⟨q, fl'⟩ => [(115, .int .i64 q)]) (fun ⟨q, fl'⟩ L => ((L.set 6 (mpk s.joints.length fm fl' 0)).set 7 (mpk s.joints.length fm fl' 1)).set 8 (mpk s.joints.length fm fl' 2)) (fun ⟨q, fl'⟩ h_q => q ≤ 3 ∧ ∀ i, i < s.joints.length → ∀ y, y ∈ fl' i ↔ y ∈ fl i ∨ (i < q ∧ y ∈ Ls i)) (fun ⟨q, fl'⟩ => 3 - q) ((0, fl)) ⟨rfl, trivial⟩ (rfl) (⟨by omega, fun i hi y => by simp⟩) ?_
        rintro ⟨q, fl'⟩ T8 h_q E_q J_q
        refine goes_norm [_, _, _, _, _, _, _, _, _, _, _, _, _, _, _, _, _] rfl ?_
        refine xp_seq ?_
        refine xp_region rfl ?_
        refine op_pure (pv_of (v := .bool _) rfl) ?_
        refine xp_seq ?_
        refine xp_cond rfl (fun hq => ?_) (fun hq => ?_)
        · skip
          have hq3 : q < 3 := ltI (n := 3) hq
          refine xp_skip ?_
          refine xp_seq ?_
          refine xp_block ?_
          refine xp_seq ?_
          refine xp_region rfl ?_
          refine op_pure (pv_move (v := .int .i64 _) rfl) ?_
          refine op_pure (pv_indexV rfl rfl rfl rfl rfl (by omega) (by omega) (a3idx AC q hq3)) ?_
          refine op_pure (pv_assign (v := .int .i64 _) rfl) ?_
          refine op_pure (pv_assign (v := .slice _ _ _) rfl) ?_
          refine xp_seq ?_
          refine xp_region rfl ?_
          refine op_pure (pv_move (v := .slice _ _ _) rfl) ?_
          refine op_pure (pv_len rfl rfl) ?_
          refine op_pure (pv_move (v := .int .i64 _) rfl) ?_
          refine xp_block ?_
          refine xp_loopL [18, 121, 122, 123, 124, 125, 126, 127, 128, 129, 130] 17 (α := Nat × List Fl) (fun ⟨t, cur⟩ => [(121, .int .i64 t)]) (fun ⟨t, cur⟩ L => ((L.set 6 (mpk s.joints.length fm (fset fl' q cur) 0)).set 7 (mpk s.joints.length fm (fset fl' q cur) 1)).set 8 (mpk s.joints.length fm (fset fl' q cur) 2)) (fun ⟨t, cur⟩ h_t => t ≤ (Ls q).length ∧ ∀ y, y ∈ cur ↔ y ∈ fl' q ∨ y ∈ (Ls q).take t) (fun ⟨t, cur⟩ => (Ls q).length - t) ((0, fl' q)) ⟨rfl, trivial⟩ (by dsimp only; rw [fset_self]; rfl) (⟨by omega, fun y => by simp⟩) ?_
          rintro ⟨t, cur⟩ T9 h_t E_t J_t
          refine goes_norm [_, _, _, _, _, _, _, _, _, _, _, _, _, _, _, _, _] rfl ?_
          refine xp_seq ?_
          refine xp_region rfl ?_
          refine op_pure (pv_of (v := .bool _) rfl) ?_
          refine xp_seq ?_
          refine xp_cond rfl (fun htt => ?_) (fun htt => ?_)
          · skip
            have hlt : t < (Ls q).length := by rw [LL]; exact ltI htt
            have hqn : q < s.joints.length := by
              rcases Nat.lt_or_ge q s.joints.length with h | h
              · exact h
              · rw [(J_i.rest q h).2] at hlt; simp at hlt
            obtain ⟨gq, oq, hAq, hcq⟩ := ((RL q hq3).ext (Ext.trans E_q E_t)).at (by omega) hlt
            have hnq := LL q
            have hlq := J_i.len q
            refine xp_skip ?_
            refine xp_seq ?_
            refine xp_block ?_
            refine xp_seq ?_
            refine xp_region rfl ?_
            refine op_pure (pv_indexE rfl hAq rfl rfl rfl (by omega) (by omega)) ?_
            refine op_loadA rfl rfl rfl rfl (hcq) ?_
            refine op_alloc (cs := [_, _]) rfl rfl fun b18 hb18 => ?_
            refine wp_norm [_, _, _, _, _, _, _, _, _, _, _, _, _, _, _, _, _, _] rfl ?_
            refine op_storeP 17 (v := .agg #[.int .i64 _, .int .i64 _]) (vs := [_, _]) (c' := [_, _]) rfl rfl rfl rfl rfl rfl rfl rfl rfl ?_
            refine wp_norm [_, _, _, _, _, _, _, _, _, _, _, _, _, _, _, _, _, _] rfl ?_
            refine xp_dw [] rfl rfl rfl ?_
            refine dw_pure (i := 0) rfl (by decide +kernel) (pv_move (v := .int .i64 _) rfl) ?_
            refine dw_pure (i := 1) rfl (by decide +kernel) (pv_fieldAddr rfl rfl rfl rfl 2 rfl) ?_
            refine dw_pure (i := 2) rfl (by decide +kernel) (pv_indexA rfl rfl rfl rfl (by omega) (by omega)) ?_
            refine dw_load (i := 3) rfl (by decide +kernel) ?_
            refine op_loadP 4 (v := .map (some (fm q))) rfl rfl rfl (m3arr _ _ fm q hq3 hqn) ?_
            refine dw_load (i := 4) rfl (by decide +kernel) ?_
            refine op_loadPA 17 (vs := [.int .i64 _, .int .i64 _]) rfl rfl rfl rfl rfl ?_
            refine dw_last (i := 5) rfl (by decide +kernel) (by decide +kernel) ?_
            refine op_mapUpdate (6 + q) (a := (Ls q)[t]) (m := fm q) (l := insAll cur) flK rfl rfl rfl rfl (by rw [← mpk_at fm fl' cur hqn]; match q, hq3 with | 0, _ => rfl | 1, _ => rfl | 2, _ => rfl) ?_
            have hg : (some (fm q, mapO (encs flV (putL (Ls q)[t] (.bool true) (insAll cur)))) : Option (Nat × Obj)) = mpk s.joints.length fm (fset fl' q (cur ++ [(Ls q)[t]])) q := by rw [mpk_at fm fl' _ hqn, insAll_snoc]
            refine dw_norm _ ((congrArg (List.set _ (6 + q)) hg).trans (setG _ 6 (mpk s.joints.length fm (fset fl' q cur)) (mpk s.joints.length fm (fset fl' q (cur ++ [(Ls q)[t]]))) q hq3 rfl rfl rfl (fun j hj => by simp only [mpk, fset_ne _ hj]))) ?_
            refine dw_norm [_, _, _, _, _, _, _, _, _, _, _, _, _, _, _, _, _, _] rfl ?_
            refine dw_end rfl ?_
            refine xp_region rfl ?_
            refine op_pure (pv_arith rfl (by omega)) ?_
            refine op_pure (pv_move (v := .int .i64 _) rfl) ?_
            refine ⟨(t + 1, cur ++ [(Ls q)[t]]), ⟨rfl, trivial⟩, rfl, rfl, E_t, fun h3 E3 => ⟨hlt, fun y => by have j2 := J_t.2 y; rw [List.mem_append, j2, List.take_succ_eq_append_getElem hlt, List.mem_append, or_assoc]⟩, by first | omega | (dsimp only; omega), ?_⟩
            repeat (first | exact off_base _ _ _ | refine off_upd (by decide) ?_ | refine off_updL rfl ?_ | refine off_mix rfl ?_)
          · skip
            have htl : t = (Ls q).length := by have := geI htt; rw [← LL] at this; have := J_t.1; omega
            refine xp_exit ?_
            refine xp_region rfl ?_
            refine op_pure (pv_arith rfl (by omega)) ?_
            refine op_pure (pv_move (v := .int .i64 _) rfl) ?_
            refine ⟨(q + 1, fset fl' q cur), ⟨rfl, trivial⟩, rfl, rfl, (Ext.trans E_q E_t), fun h3 E3 => ⟨hq3, mapsJ J_q.2 (by have j2 := J_t.2; rw [htl, List.take_length] at j2; exact j2)⟩, by first | omega | (dsimp only; omega), ?_⟩
            repeat (first | exact off_base _ _ _ | refine off_upd (by decide) ?_ | refine off_updL rfl ?_ | refine off_mix rfl ?_)
        · skip
          have hq3 : q = 3 := by have := geI (n := 3) hq; have := J_q.1; omega
          have e1 : fatesK s n (k + 1) = fatesK s n k ++ [fateOf s n x] := by unfold fatesK; rw [okk, List.map_append]; rfl
          have e3 : ∀ i, flsK s n i (k + 1) = flsK s n i k ++ surv s n x i := by intro i; unfold flsK; rw [okk, List.flatMap_append]; simp
          have j2 := J_q.2
          refine xp_exit ?_
          intro V2
          refine ⟨rfl, ⟨_, _, rfl⟩, ?_⟩
          have V3 := valid_set (o' := obL lp .ready none) V2 (i := 10) rfl
          obtain ⟨h9, E9, e9, V9⟩ := wl_drop [_, _, _, _, _, _] [_, _, _, _, _, _, _, _, _, _, _] V3
          refine ⟨h9, _, e9, V9, Ext.trans (Ext.trans (Ext.trans (Ext.trans (Ext.trans (Ext.trans E_i E_a2) Q0) Q1) Q2) E_q) E9, rfl, Ext.trans (Ext.trans E0 (Ext.trans (Ext.trans (Ext.trans (Ext.trans (Ext.trans E_i E_a2) Q0) Q1) Q2) E_q)) E9, a2, fl', by rw [e1, insAll_snoc], J_a2, fun i hi y => by rw [e3, List.mem_append, j2 i hi y, hfl i hi y, (J_i.done i hi).2.2 y]; exact ⟨fun h => h.imp id (fun h => h.2), fun h => h.imp id (fun h => ⟨by omega, h⟩)⟩⟩
    · rintro v H ⟨h', M', rfl, V', E', I⟩
      obtain ⟨E0, a, fl, rfl, ha, hfl⟩ := I
      refine ⟨h', [_, _, _, _, _, _, _, _, _, _], .ready, none, rfl, V', by simp, fun h'' E'' => ?_⟩
      have hlen : (skM s n).length * 6 = a.n * 6 := by rw [← ha.len, flat_len (m := 6) (fun _ _ => rfl)]
      refine xp_seq ?_
      refine xp_region rfl ?_
      refine op_loadPA 4 (vs := [.slice _ _ _, .map _, .map _, .map _, .map _]) rfl rfl rfl rfl rfl ?_
      refine op_storeP 2 (v := .agg #[.slice _ _ _, .map _, .map _, .map _, .map _]) (vs := [_, _, _, _, _]) (c' := [_, _, _, _, _]) rfl rfl rfl rfl rfl rfl rfl rfl rfl ?_
      refine wp_norm [_, _, _, _, _, _, _, _, _, _] rfl ?_
      refine xp_ret ?_
      refine res_listM (vs := [_]) rfl Try.results48 ⟨resV_agg 2 rfl rfl rfl rfl rfl (vs := [.slice _ _ _, .map _, .map _, .map _, .map _]) rfl, trivial⟩ fun hM EM V => ?_
      refine ⟨Ext.trans (Ext.trans (Ext.trans (Ext.trans E_k E_y) E') E'') (Ext.trans EM (ext_wl V)), a.A, a.c, b19, fm, fl, ?_, ⟨fun _ _ => rfl, ha.rd fun b o e => wl_get V (i := 9) (by rw [← e]; rfl)⟩, wl_get V (i := 3) rfl, fun i hi => ⟨?_, hfl i hi⟩⟩
      · show _ = Value.agg #[.slice a.A (skM s n).length a.c, _, _, _, _]
        rw [show (skM s n).length = a.n from by omega]
        rfl
      · match i, hi with
        | 0, hi => exact wl_get V (i := 6) (by simp only [mpk, if_pos hi]; rfl)
        | 1, hi => exact wl_get V (i := 7) (by simp only [mpk, if_pos hi]; rfl)
        | 2, hi => exact wl_get V (i := 8) (by simp only [mpk, if_pos hi]; rfl)
        | i + 3, hi => omega
end Go.Proofs.Ytledjpdpkbifgaa
/- Walks: what can be of both kinds. Conditions: as each theorem states. -/
namespace Go.Proofs.Ytledjpdpkbifgaa
open Go Go.HL Go.Proofs Go.Wx
variable [Lvl]
set_option maxRecDepth 100000
/-- A value that is what can be of both kinds. -/
def BothR (h : AH) (s : Season) (v : Value) : Prop := ∃ (A : Option Addr) (c mf : Nat) (fm : Nat → Nat) (fl : Nat → List Fl) (A' : Option Addr) (c' mf' : Nat) (fm' : Nat → Nat) (fl' : Nat → List Fl),
  v = .agg (halfC s 1 A c mf fm ++ halfC s 2 A' c' mf' fm').toArray ∧ HalfX h s 1 A mf fm fl ∧ HalfX h s 2 A' mf' fm' fl'
theorem BothR.ext {h h' : AH} {s : Season} {v : Value} (b : BothR h s v) (E : Ext h h') : BothR h' s v := by
  obtain ⟨A, c, mf, fm, fl, A', c', mf', fm', fl', e, x, x'⟩ := b
  exact ⟨A, c, mf, fm, fl, A', c', mf', fm', fl', e, x.ext E, x'.ext E⟩
theorem bothOf_ok (s : Season) (B : SeasonB s) (A0 A1 A2 A3 : Option Addr) (c0 c1 c2 c3 : Nat) (h : AH) (R : SeasonR h A0 A1 A2 A3 s) :
    FnT Try.prog 32 #[seasonV A0 A1 A2 A3 c0 c1 c2 c3 s] h (fun v h' => ∃ w, v = .tuple #[w, .bool (mayM s)] ∧ BothR h' s w) := by
  refine call_body Try.func32 rfl Try.ntmps32 rfl ?_
  refine xp_seq ?_
  refine xp_region rfl ?_
  refine op_box (v := .agg #[.slice _ _ _, .slice _ _ _, .slice _ _ _, .slice _ _ _]) (cs := [_, _, _, _]) rfl rfl fun b1 hb1 => ?_
  refine wp_norm [_] rfl ?_
  refine op_alloc (cs := [_, _, _, _, _, _, _, _, _, _]) rfl rfl fun b2 hb2 => ?_
  refine wp_norm [_, _] rfl ?_
  refine op_pure (pv_assign (v := .bool _) rfl) ?_
  refine xp_seq ?_
  refine xp_dw [] rfl rfl rfl ?_
  refine dw_load (i := 0) rfl (by decide +kernel) ?_
  refine op_loadPA 0 (vs := [.slice _ _ _, .slice _ _ _, .slice _ _ _, .slice _ _ _]) rfl rfl rfl rfl rfl ?_
  refine dw_load (i := 2) rfl (by decide +kernel) ?_
  refine op_loadPA 0 (vs := [.slice _ _ _, .slice _ _ _, .slice _ _ _, .slice _ _ _]) rfl rfl rfl rfl rfl ?_
  refine dw_eff (i := 1) rfl (by decide +kernel) ?_
  refine op_fn (caps := []) (vs := [.agg #[.slice _ _ _, .slice _ _ _, .slice _ _ _, .slice _ _ _], .int .i64 _]) rfl rfl rfl (halfOf_ok s B 1 (.inl rfl) A0 A1 A2 A3 c0 c1 c2 c3 h R) ?_
  rintro _ h1 E1 ⟨A, c, mf, fm, fl, rfl, X⟩
  refine ⟨ext_wlm E1 _, ?_⟩
  refine dw_last (i := 3) rfl (by decide +kernel) (by decide +kernel) ?_
  refine op_fn (caps := []) (vs := [.agg #[.slice _ _ _, .slice _ _ _, .slice _ _ _, .slice _ _ _], .int .i64 _]) rfl rfl rfl (halfOf_ok s B 2 (.inr rfl) A0 A1 A2 A3 c0 c1 c2 c3 h1 (R.ext E1)) ?_
  rintro _ h2 E2 ⟨A', c', mf', fm', fl', rfl, X'⟩
  refine dw_pure (i := 4) rfl (by decide +kernel) (pv_build (zc := [_, _, _, _, _, _, _, _, _, _]) (vs := [(0, .agg #[.slice _ _ _, .map _, .map _, .map _, .map _]), (1, .agg #[.slice _ _ _, .map _, .map _, .map _, .map _])]) (cs := [_, _, _, _, _, _, _, _, _, _]) rfl rfl rfl rfl rfl rfl) ?_
  refine dw_eff (i := 5) rfl (by decide +kernel) ?_
  refine op_alloc (cs := [_, _, _, _, _, _, _, _, _, _]) rfl rfl fun b4 hb4 => ?_
  refine ⟨ext_new hb4 _, ?_⟩
  refine dw_norm [_, _, _] rfl ?_
  refine dw_last (i := 6) rfl (by decide +kernel) (by decide +kernel) ?_
  refine op_storeP 2 (v := .agg #[.slice _ _ _, .map _, .map _, .map _, .map _, .slice _ _ _, .map _, .map _, .map _, .map _]) (vs := [_, _, _, _, _, _, _, _, _, _]) (c' := [_, _, _, _, _, _, _, _, _, _]) rfl rfl rfl rfl rfl rfl rfl rfl rfl ?_
  refine dw_norm [_, _, _] rfl ?_
  refine dw_end rfl ?_
  refine xp_seq ?_
  refine xp_dw [false, true, false] rfl rfl rfl ?_
  refine dw_load (i := 0) rfl (by decide +kernel) ?_
  refine op_loadPA 2 (vs := [.slice _ _ _, .map _, .map _, .map _, .map _, .slice _ _ _, .map _, .map _, .map _, .map _]) rfl rfl rfl rfl rfl ?_
  refine dw_pure (i := 1) rfl (by decide +kernel) (pv_fieldAddr rfl rfl rfl rfl 0 rfl) ?_
  refine dw_pure (i := 2) rfl (by decide +kernel) (pv_fieldAddr rfl rfl rfl rfl 0 rfl) ?_
  refine dw_load (i := 3) rfl (by decide +kernel) ?_
  refine op_loadP 2 (v := .slice _ _ _) rfl rfl rfl rfl ?_
  refine dw_pure (i := 4) rfl (by decide +kernel) (pv_len rfl rfl) ?_
  refine dw_pure (i := 5) rfl (by decide +kernel) (pv_of (v := .bool _) rfl) ?_
  refine dw_pure (i := 6) rfl (by decide +kernel) (pv_move (v := .bool _) rfl) ?_
  rcases Bool.eq_false_or_eq_true (decide (((skM s 1).length : Int) > 0)) with hg | hg
  · skip
    refine dw_pureG (i := 7) rfl (by decide +kernel) rfl hg (pv_fieldAddr rfl rfl rfl rfl 5 rfl) ?_
    refine dw_pureG (i := 8) rfl (by decide +kernel) rfl hg (pv_fieldAddr rfl rfl rfl rfl 5 rfl) ?_
    refine dw_loadG (i := 9) rfl (by decide +kernel) rfl hg ?_
    refine op_loadP 2 (v := .slice _ _ _) rfl rfl rfl rfl ?_
    refine dw_pureG (i := 10) rfl (by decide +kernel) rfl hg (pv_len rfl rfl) ?_
    refine dw_pureG (i := 11) rfl (by decide +kernel) rfl hg (pv_of (v := .bool _) rfl) ?_
    refine dw_pure (i := 12) rfl (by decide +kernel) (pv_pickT rfl hg (v := .bool _) rfl) ?_
    refine dw_eff (i := 13) rfl (by decide +kernel) ?_
    refine op_storeP 1 (v := .agg #[.slice _ _ _, .map _, .map _, .map _, .map _, .slice _ _ _, .map _, .map _, .map _, .map _]) (vs := [_, _, _, _, _, _, _, _, _, _]) (c' := [_, _, _, _, _, _, _, _, _, _]) rfl rfl rfl rfl rfl rfl rfl rfl rfl ?_
    refine ⟨Ext.refl _, ?_⟩
    refine dw_norm [_, _, _] rfl ?_
    refine dw_pure (i := 14) rfl (by decide +kernel) (pv_assign (v := .bool _) rfl) ?_
    refine dw_end rfl ?_
    refine xp_ret ?_
    refine res_list (vs := [_, _]) Try.results32 ⟨resV_agg 1 rfl rfl rfl rfl rfl (vs := [.slice _ _ _, .map _, .map _, .map _, .map _, .slice _ _ _, .map _, .map _, .map _, .map _]) rfl, resV_tmp rfl rfl, trivial⟩ fun V => ?_
    refine ⟨(Ext.trans (Ext.trans E1 E2) (ext_wl V)), _, ?_, A, c, mf, fm, fl, A', c', mf', fm', fl', rfl, X.ext (Ext.trans E2 (ext_wl V)), X'.ext (ext_wl V)⟩
    have : 0 < (skM s 1).length := by have := of_decide_eq_true hg; omega
    simp only [mayM, this, decide_true, Bool.true_and]
    show Value.tuple #[_, .bool (decide (((skM s 2).length : Int) > 0))] = _
    congr 3
    simp
  · skip
    refine dw_skip (i := 7) rfl (by decide +kernel) rfl hg ?_
    refine dw_skip (i := 8) rfl (by decide +kernel) rfl hg ?_
    refine dw_skip (i := 9) rfl (by decide +kernel) rfl hg ?_
    refine dw_skip (i := 10) rfl (by decide +kernel) rfl hg ?_
    refine dw_skip (i := 11) rfl (by decide +kernel) rfl hg ?_
    refine dw_pure (i := 12) rfl (by decide +kernel) (pv_pickF rfl hg (v := .bool _) rfl) ?_
    refine dw_eff (i := 13) rfl (by decide +kernel) ?_
    refine op_storeP 1 (v := .agg #[.slice _ _ _, .map _, .map _, .map _, .map _, .slice _ _ _, .map _, .map _, .map _, .map _]) (vs := [_, _, _, _, _, _, _, _, _, _]) (c' := [_, _, _, _, _, _, _, _, _, _]) rfl rfl rfl rfl rfl rfl rfl rfl rfl ?_
    refine ⟨Ext.refl _, ?_⟩
    refine dw_norm [_, _, _] rfl ?_
    refine dw_pure (i := 14) rfl (by decide +kernel) (pv_assign (v := .bool _) rfl) ?_
    refine dw_end rfl ?_
    refine xp_ret ?_
    refine res_list (vs := [_, _]) Try.results32 ⟨resV_agg 1 rfl rfl rfl rfl rfl (vs := [.slice _ _ _, .map _, .map _, .map _, .map _, .slice _ _ _, .map _, .map _, .map _, .map _]) rfl, resV_tmp rfl rfl, trivial⟩ fun V => ?_
    refine ⟨(Ext.trans (Ext.trans E1 E2) (ext_wl V)), _, ?_, A, c, mf, fm, fl, A', c', mf', fm', fl', rfl, X.ext (Ext.trans E2 (ext_wl V)), X'.ext (ext_wl V)⟩
    have : ¬ 0 < (skM s 1).length := by have := of_decide_eq_false hg; omega
    simp only [mayM, this, decide_false, Bool.false_and]
    rfl
theorem of_ok (s : Season) (n : Int) (A : Option Addr) (c mf : Nat) (fm : Nat → Nat) (A' : Option Addr) (c' mf' : Nat) (fm' : Nat → Nat) (h : AH) :
    FnT Try.prog 49 #[.agg (halfC s 1 A c mf fm ++ halfC s 2 A' c' mf' fm').toArray, .int .i64 n] h (fun v _ => v = .agg (if n = 1 then halfC s 1 A c mf fm else halfC s 2 A' c' mf' fm').toArray) := by
  refine call_body Try.func49 rfl Try.ntmps49 rfl ?_
  refine xp_seq ?_
  refine xp_region rfl ?_
  refine op_box (v := .agg #[.slice _ _ _, .map _, .map _, .map _, .map _, .slice _ _ _, .map _, .map _, .map _, .map _]) (cs := [_, _, _, _, _, _, _, _, _, _]) rfl rfl fun b2 hb2 => ?_
  refine wp_norm [_] rfl ?_
  refine op_alloc (cs := [_, _, _, _, _]) rfl rfl fun b4 hb4 => ?_
  refine wp_norm [_, _] rfl ?_
  refine xp_seq ?_
  refine xp_seq ?_
  refine xp_region rfl ?_
  refine op_pure (pv_move (v := .int .i64 _) rfl) ?_
  refine op_pure (pv_of (v := .bool _) rfl) ?_
  refine xp_cond rfl (fun hn => ?_) (fun hn => ?_)
  · skip
    refine xp_seq ?_
    refine xp_region rfl ?_
    refine op_pure (pv_fieldAddr rfl rfl rfl rfl 0 rfl) ?_
    refine op_loadPA 0 (vs := [.slice _ _ _, .map _, .map _, .map _, .map _]) rfl rfl rfl rfl rfl ?_
    refine op_storeP 1 (v := .agg #[.slice _ _ _, .map _, .map _, .map _, .map _]) (vs := [_, _, _, _, _]) (c' := [_, _, _, _, _]) rfl rfl rfl rfl rfl rfl rfl rfl rfl ?_
    refine wp_norm [_, _] rfl ?_
    refine xp_ret ?_
    refine res_list (vs := [_]) Try.results49 ⟨resV_agg 1 rfl rfl rfl rfl rfl (vs := [.slice _ _ _, .map _, .map _, .map _, .map _]) rfl, trivial⟩ fun V => ?_
    exact ⟨(ext_wl V), by rw [if_pos (by simpa using hn)]; rfl⟩
  · skip
    refine xp_skip ?_
    refine xp_seq ?_
    refine xp_region rfl ?_
    refine op_pure (pv_fieldAddr rfl rfl rfl rfl 5 rfl) ?_
    refine op_loadPA 0 (vs := [.slice _ _ _, .map _, .map _, .map _, .map _]) rfl rfl rfl rfl rfl ?_
    refine op_storeP 1 (v := .agg #[.slice _ _ _, .map _, .map _, .map _, .map _]) (vs := [_, _, _, _, _]) (c' := [_, _, _, _, _]) rfl rfl rfl rfl rfl rfl rfl rfl rfl ?_
    refine wp_norm [_, _] rfl ?_
    refine xp_ret ?_
    refine res_list (vs := [_]) Try.results49 ⟨resV_agg 1 rfl rfl rfl rfl rfl (vs := [.slice _ _ _, .map _, .map _, .map _, .map _]) rfl, trivial⟩ fun V => ?_
    exact ⟨(ext_wl V), by rw [if_neg (by simpa using hn)]; rfl⟩
/-- The error that a check of what is asked returns. -/
def AskT (f : Value) (h : AH) (e : Int) : Prop := ∀ h', Ext h h' → Fin h' → CallV Try.prog f [] h' (fun v h'' => Ext h' h'' ∧ v = .int .i64 e) noE
theorem AskT.ext {f : Value} {h h' : AH} {e : Int} (a : AskT f h e) (E : Ext h h') : AskT f h' e := fun h1 E1 => a h1 (E.trans E1)
def fnC (v : Value) : List Value := [v]
abbrev zeroBoth : Value := .agg #[.slice none 0 0, .map none, .map none, .map none, .map none, .slice none 0 0, .map none, .map none, .map none, .map none]
theorem known_ok (s : Season) (A0 A1 A2 A3 : Option Addr) (c0 c1 c2 c3 : Nat) (h : AH) (R : SeasonR h A0 A1 A2 A3 s) (h0 : s.heats.length < 2 ^ 40) (h1 : s.damps.length < 2 ^ 40) (h2 : s.joints.length < 2 ^ 40) (h3 : s.reports.length < 2 ^ 40)
    (fs : List Value) (es : List Int) (F : Option Addr) (cF : Nat) (RF : Row h 1 fnC F fs) (hl : fs.length = es.length) (hf : fs.length ≤ 10) (ask : ∀ (i : Nat) (f : Value) (e : Int), fs[i]? = some f → es[i]? = some e → AskT f h e) :
    FnT Try.prog 18 #[seasonV A0 A1 A2 A3 c0 c1 c2 c3 s, .slice F fs.length cF] h (fun v h' => ∃ w, v = .tuple #[w, .int .i64 (knownM s es)] ∧ (knownM s es = 0 → BothR h' s w) ∧ (knownM s es ≠ 0 → w = zeroBoth)) := by
  refine call_body Try.func18 rfl Try.ntmps18 rfl ?_
  refine xp_seq ?_
  refine xp_region rfl ?_
  refine op_box (v := .agg #[.slice _ _ _, .slice _ _ _, .slice _ _ _, .slice _ _ _]) (cs := [_, _, _, _]) rfl rfl fun b2 hb2 => ?_
  refine wp_norm [_] rfl ?_
  refine op_alloc (cs := [_, _, _, _, _, _, _, _, _, _]) rfl rfl fun b4 hb4 => ?_
  refine wp_norm [_, _] rfl ?_
  refine op_pure (pv_assign (v := .int .i64 _) rfl) ?_
  refine xp_seq ?_
  refine xp_seq ?_
  refine xp_region rfl ?_
  refine op_loadPA 0 (vs := [.slice _ _ _, .slice _ _ _, .slice _ _ _, .slice _ _ _]) rfl rfl rfl rfl rfl ?_
  refine op_fn (caps := []) (vs := [.agg #[.slice _ _ _, .slice _ _ _, .slice _ _ _, .slice _ _ _]]) rfl rfl rfl (check_ok s A0 A1 A2 A3 c0 c1 c2 c3 h R h0 h1 h2 h3) ?_
  rintro _ h4 E4 rfl
  refine op_pure (pv_assign (v := .int .i64 _) rfl) ?_
  refine xp_seq ?_
  refine xp_region rfl ?_
  refine op_pure (pv_move (v := .int .i64 _) rfl) ?_
  refine op_pure (pv_of (v := .bool _) rfl) ?_
  refine xp_cond rfl (fun hc => ?_) (fun hc => ?_)
  · skip
    have hc' : checkM s ≠ 0 := by simpa using hc
    have hk : knownM s es = checkM s := by rw [knownM, if_pos hc']
    refine xp_seq ?_
    refine xp_region rfl ?_
    refine op_pure (pv_build (zc := [_, _, _, _, _, _, _, _, _, _]) (vs := []) (cs := [_, _, _, _, _, _, _, _, _, _]) rfl rfl rfl rfl rfl rfl) ?_
    refine op_pure (pv_move (v := .int .i64 _) rfl) ?_
    refine op_storeP 1 (v := .agg #[.slice _ _ _, .map _, .map _, .map _, .map _, .slice _ _ _, .map _, .map _, .map _, .map _]) (vs := [_, _, _, _, _, _, _, _, _, _]) (c' := [_, _, _, _, _, _, _, _, _, _]) rfl rfl rfl rfl rfl rfl rfl rfl rfl ?_
    refine wp_norm [_, _] rfl ?_
    refine op_pure (pv_assign (v := .int .i64 _) rfl) ?_
    refine xp_ret ?_
    refine res_list (vs := [_, _]) Try.results18 ⟨resV_agg 1 rfl rfl rfl rfl rfl (vs := [.slice _ _ _, .map _, .map _, .map _, .map _, .slice _ _ _, .map _, .map _, .map _, .map _]) rfl, resV_tmp rfl rfl, trivial⟩ fun V => ?_
    exact ⟨(Ext.trans E4 (ext_wl V)), _, by rw [hk]; rfl, fun e => absurd (hk ▸ e) hc', fun _ => rfl⟩
  · skip
    have hc' : checkM s = 0 := by simpa using hc
    have SV := checkM_zero hc'
    refine xp_skip ?_
    refine xp_seq ?_
    refine xp_seq ?_
    refine xp_region rfl ?_
    refine op_pure (pv_move (v := .slice _ _ _) rfl) ?_
    refine op_pure (pv_len rfl rfl) ?_
    refine op_pure (pv_move (v := .int .i64 _) rfl) ?_
    refine xp_block ?_
    refine xp_loopB [5, 8, 9, 20, 21, 22, 23, 24, 25, 26, 27, 28, 29, 30] 2 (α := Nat) (fun k => [(20, .int .i64 k)]) (fun k => _) (fun k h_k => k ≤ fs.length ∧ firstErr id (es.take k) = 0) (fun k => fs.length - k) (0) ⟨rfl, trivial⟩ (rfl) (⟨Nat.zero_le _, rfl⟩) ?_
    rintro k T1 h_k E_k J_k
    refine goes_norm [_, _] rfl ?_
    refine xp_seq ?_
    refine xp_region rfl ?_
    refine op_pure (pv_of (v := .bool _) rfl) ?_
    refine xp_seq ?_
    refine xp_cond rfl (fun ht => ?_) (fun ht => ?_)
    · skip
      have hlt := ltI ht
      have hle : k < es.length := by omega
      obtain ⟨g, off, rfl, hcf⟩ := (RF.ext (Ext.trans E4 E_k)).at (by omega) hlt
      refine xp_skip ?_
      refine xp_seq ?_
      refine xp_block ?_
      refine xp_seq ?_
      refine xp_region rfl ?_
      refine op_pure (pv_index rfl rfl rfl rfl (by omega) (by omega)) ?_
      refine op_load (v := _) rfl rfl ((hcf) 0 _ rfl) ?_
      refine op_pure (pv_assign (v := _) rfl) ?_
      refine xp_seq ?_
      refine xp_region rfl ?_
      refine op_pure (pv_move (v := _) rfl) ?_
      refine op_callV rfl rfl (fun f => ask k fs[k] es[k] (List.getElem?_eq_getElem hlt) (List.getElem?_eq_getElem hle) h_k (Ext.trans E4 E_k) f) ?_
      rintro _ h5 E5 rfl
      refine op_pure (pv_assign (v := .int .i64 _) rfl) ?_
      refine xp_seq ?_
      refine xp_region rfl ?_
      refine op_pure (pv_move (v := .int .i64 _) rfl) ?_
      refine op_pure (pv_of (v := .bool _) rfl) ?_
      refine xp_cond rfl (fun he => ?_) (fun he => ?_)
      · skip
        have he' : id es[k] ≠ 0 := by simpa using he
        have hs := firstErr_stop hle J_k.2 he'
        have hk : knownM s es = es[k] := by rw [knownM, if_neg (by simp [hc']), hs, if_pos he']; rfl
        refine xp_seq ?_
        refine xp_region rfl ?_
        refine op_pure (pv_build (zc := [_, _, _, _, _, _, _, _, _, _]) (vs := []) (cs := [_, _, _, _, _, _, _, _, _, _]) rfl rfl rfl rfl rfl rfl) ?_
        refine op_pure (pv_move (v := .int .i64 _) rfl) ?_
        refine op_storeP 1 (v := .agg #[.slice _ _ _, .map _, .map _, .map _, .map _, .slice _ _ _, .map _, .map _, .map _, .map _]) (vs := [_, _, _, _, _, _, _, _, _, _]) (c' := [_, _, _, _, _, _, _, _, _, _]) rfl rfl rfl rfl rfl rfl rfl rfl rfl ?_
        refine wp_norm [_, _] rfl ?_
        refine op_pure (pv_assign (v := .int .i64 _) rfl) ?_
        refine xp_ret ?_
        refine res_list (vs := [_, _]) Try.results18 ⟨resV_agg 1 rfl rfl rfl rfl rfl (vs := [.slice _ _ _, .map _, .map _, .map _, .map _, .slice _ _ _, .map _, .map _, .map _, .map _]) rfl, resV_tmp rfl rfl, trivial⟩ fun V => ?_
        exact ⟨(Ext.trans (Ext.trans (Ext.trans E4 E_k) E5) (ext_wl V)), _, by rw [hk]; rfl, fun e => absurd (hk ▸ e) he', fun _ => rfl⟩
      · skip
        have he' : id es[k] = 0 := by simpa using he
        refine xp_skip ?_
        refine xp_region rfl ?_
        refine op_pure (pv_arith rfl (by omega)) ?_
        refine op_pure (pv_move (v := .int .i64 _) rfl) ?_
        refine ⟨k + 1, ⟨rfl, trivial⟩, rfl, rfl, (Ext.trans E_k E5), fun h3 E3 => ⟨hlt, firstErr_go hle J_k.2 he'⟩, by first | omega | (dsimp only; omega), ?_⟩
        repeat (first | exact off_base _ _ _ | refine off_upd (by decide) ?_ | refine off_updL rfl ?_ | refine off_mix rfl ?_)
    · skip
      have hk : k = es.length := by have := geI ht; omega
      have hf0 : firstErr id es = 0 := by have := J_k.2; rwa [hk, List.take_length] at this
      refine xp_exit ?_
      refine xp_seq ?_
      refine xp_region rfl ?_
      refine op_loadPA 0 (vs := [.slice _ _ _, .slice _ _ _, .slice _ _ _, .slice _ _ _]) rfl rfl rfl rfl rfl ?_
      refine op_fn (caps := []) (vs := [.agg #[.slice _ _ _, .slice _ _ _, .slice _ _ _, .slice _ _ _]]) rfl rfl rfl (bothOf_ok s SV.b A0 A1 A2 A3 c0 c1 c2 c3 h_k (R.ext (Ext.trans E4 E_k))) ?_
      rintro _ h6 E6 ⟨_, rfl, A, c, mf, fm, fl, A', c', mf', fm', fl', rfl, X, X'⟩
      refine op_pure (pv_move (v := .tuple #[.agg #[.slice _ _ _, .map _, .map _, .map _, .map _, .slice _ _ _, .map _, .map _, .map _, .map _], .bool _]) rfl) ?_
      refine op_pure (pv_of (v := .agg #[.slice _ _ _, .map _, .map _, .map _, .map _, .slice _ _ _, .map _, .map _, .map _, .map _]) rfl) ?_
      refine op_pure (pv_of (v := .bool _) rfl) ?_
      refine op_alloc (cs := [_, _, _, _, _, _, _, _, _, _]) rfl rfl fun b10 hb10 => ?_
      refine wp_norm [_, _, _] rfl ?_
      refine op_storeP 2 (v := .agg #[.slice _ _ _, .map _, .map _, .map _, .map _, .slice _ _ _, .map _, .map _, .map _, .map _]) (vs := [_, _, _, _, _, _, _, _, _, _]) (c' := [_, _, _, _, _, _, _, _, _, _]) rfl rfl rfl rfl rfl rfl rfl rfl rfl ?_
      refine wp_norm [_, _, _] rfl ?_
      refine op_pure (pv_assign (v := .bool _) rfl) ?_
      refine xp_seq ?_
      refine xp_seq ?_
      refine xp_region rfl ?_
      refine op_pure (pv_move (v := .bool _) rfl) ?_
      refine op_pure (pv_of (v := .bool _) rfl) ?_
      rcases Bool.eq_false_or_eq_true (mayM s) with hm | hm
      · have hkn : knownM s es = 0 := by rw [knownM, if_neg (by simp [hc']), if_neg (by simp [hf0]), if_pos hm]
        refine xp_condF rfl (by rw [hm]; rfl) ?_
        refine xp_skip ?_
        refine xp_seq ?_
        refine xp_region rfl ?_
        refine op_loadPA 2 (vs := [.slice _ _ _, .map _, .map _, .map _, .map _, .slice _ _ _, .map _, .map _, .map _, .map _]) rfl rfl rfl rfl rfl ?_
        refine op_storeP 1 (v := .agg #[.slice _ _ _, .map _, .map _, .map _, .map _, .slice _ _ _, .map _, .map _, .map _, .map _]) (vs := [_, _, _, _, _, _, _, _, _, _]) (c' := [_, _, _, _, _, _, _, _, _, _]) rfl rfl rfl rfl rfl rfl rfl rfl rfl ?_
        refine wp_norm [_, _, _] rfl ?_
        refine op_pure (pv_assign (v := .int .i64 _) rfl) ?_
        refine xp_ret ?_
        refine res_list (vs := [_, _]) Try.results18 ⟨resV_agg 1 rfl rfl rfl rfl rfl (vs := [.slice _ _ _, .map _, .map _, .map _, .map _, .slice _ _ _, .map _, .map _, .map _, .map _]) rfl, resV_tmp rfl rfl, trivial⟩ fun V => ?_
        exact ⟨(Ext.trans (Ext.trans (Ext.trans E4 E_k) E6) (ext_wl V)), _, by rw [hkn]; rfl, fun _ => ⟨A, c, mf, fm, fl, A', c', mf', fm', fl', rfl, X.ext (ext_wl V), X'.ext (ext_wl V)⟩, fun e => absurd hkn e⟩
      · have hkn : knownM s es = 9 := by rw [knownM, if_neg (by simp [hc']), if_neg (by simp [hf0]), if_neg (by simp [hm])]
        refine xp_condT rfl (by rw [hm]; rfl) ?_
        refine xp_seq ?_
        refine xp_region rfl ?_
        refine op_pure (pv_build (zc := [_, _, _, _, _, _, _, _, _, _]) (vs := []) (cs := [_, _, _, _, _, _, _, _, _, _]) rfl rfl rfl rfl rfl rfl) ?_
        refine op_storeP 1 (v := .agg #[.slice _ _ _, .map _, .map _, .map _, .map _, .slice _ _ _, .map _, .map _, .map _, .map _]) (vs := [_, _, _, _, _, _, _, _, _, _]) (c' := [_, _, _, _, _, _, _, _, _, _]) rfl rfl rfl rfl rfl rfl rfl rfl rfl ?_
        refine wp_norm [_, _, _] rfl ?_
        refine op_pure (pv_assign (v := .int .i64 _) rfl) ?_
        refine xp_ret ?_
        refine res_list (vs := [_, _]) Try.results18 ⟨resV_agg 1 rfl rfl rfl rfl rfl (vs := [.slice _ _ _, .map _, .map _, .map _, .map _, .slice _ _ _, .map _, .map _, .map _, .map _]) rfl, resV_tmp rfl rfl, trivial⟩ fun V => ?_
        exact ⟨(Ext.trans (Ext.trans (Ext.trans E4 E_k) E6) (ext_wl V)), _, by rw [hkn]; rfl, fun e => absurd (hkn.symm.trans e) (by decide), fun _ => rfl⟩
theorem known_yes (s : Season) (A0 A1 A2 A3 : Option Addr) (c0 c1 c2 c3 : Nat) (h : AH) (R : SeasonR h A0 A1 A2 A3 s) (h0 : s.heats.length < 2 ^ 40) (h1 : s.damps.length < 2 ^ 40) (h2 : s.joints.length < 2 ^ 40) (h3 : s.reports.length < 2 ^ 40)
    (fs : List Value) (es : List Int) (F : Option Addr) (cF : Nat) (RF : Row h 1 fnC F fs) (hl : fs.length = es.length) (hf : fs.length ≤ 10) (ask : ∀ (i : Nat) (f : Value) (e : Int), fs[i]? = some f → es[i]? = some e → AskT f h e) (he : knownM s es = 0) :
    FnT Try.prog 18 #[seasonV A0 A1 A2 A3 c0 c1 c2 c3 s, .slice F fs.length cF] h (fun v h' => ∃ (A : Option Addr) (c mf : Nat) (fm : Nat → Nat) (fl : Nat → List Fl) (A' : Option Addr) (c' mf' : Nat) (fm' : Nat → Nat) (fl' : Nat → List Fl), v = .tuple #[.agg (halfC s 1 A c mf fm ++ halfC s 2 A' c' mf' fm').toArray, .int .i64 0] ∧ HalfX h' s 1 A mf fm fl ∧ HalfX h' s 2 A' mf' fm' fl') := by
  refine CallT.mono (known_ok s A0 A1 A2 A3 c0 c1 c2 c3 h R h0 h1 h2 h3 fs es F cF RF hl hf ask) ?_ (fun _ _ y => y)
  rintro v h' ⟨E, w, rfl, hy, _⟩
  obtain ⟨A, c, mf, fm, fl, A', c', mf', fm', fl', rfl, X, X'⟩ := hy he
  exact ⟨E, A, c, mf, fm, fl, A', c', mf', fm', fl', by rw [he], X, X'⟩
theorem known_no (s : Season) (A0 A1 A2 A3 : Option Addr) (c0 c1 c2 c3 : Nat) (h : AH) (R : SeasonR h A0 A1 A2 A3 s) (h0 : s.heats.length < 2 ^ 40) (h1 : s.damps.length < 2 ^ 40) (h2 : s.joints.length < 2 ^ 40) (h3 : s.reports.length < 2 ^ 40)
    (fs : List Value) (es : List Int) (F : Option Addr) (cF : Nat) (RF : Row h 1 fnC F fs) (hl : fs.length = es.length) (hf : fs.length ≤ 10) (ask : ∀ (i : Nat) (f : Value) (e : Int), fs[i]? = some f → es[i]? = some e → AskT f h e) (he : knownM s es ≠ 0) :
    FnT Try.prog 18 #[seasonV A0 A1 A2 A3 c0 c1 c2 c3 s, .slice F fs.length cF] h (fun v _ => v = .tuple #[zeroBoth, .int .i64 (knownM s es)]) := by
  refine CallT.mono (known_ok s A0 A1 A2 A3 c0 c1 c2 c3 h R h0 h1 h2 h3 fs es F cF RF hl hf ask) ?_ (fun _ _ y => y)
  rintro v h' ⟨E, w, rfl, _, hn⟩
  exact ⟨E, by rw [hn he]⟩
end Go.Proofs.Ytledjpdpkbifgaa
/- The own logic, part Z: maps gone through, whatever the order. Conditions: none. -/
namespace Go.HL
open Go Go.Wx
variable [Lvl]
/-- The numbers that have been met, of so many. -/
structure SeenJ (N : Nat) (sn : List Nat) : Prop where
  nd : sn.Nodup
  lt : ∀ j ∈ sn, j < N
theorem SeenJ.nil (N : Nat) : SeenJ N [] := ⟨List.nodup_nil, fun _ h => (by cases h)⟩
theorem SeenJ.len {N : Nat} {sn : List Nat} (J : SeenJ N sn) : sn.length ≤ N := nodup_len _ _ J.nd J.lt
theorem SeenJ.snoc {N : Nat} {sn : List Nat} (J : SeenJ N sn) {j : Nat} (hj : j < N) (hn : j ∉ sn) : SeenJ N (sn ++ [j]) ∧ (sn ++ [j]).length = sn.length + 1 ∧ sn.length + 1 ≤ N := by
  have h1 : SeenJ N (sn ++ [j]) := ⟨snoc_nodup J.nd hn, fun k hk => by
    rcases List.mem_append.1 hk with h | h
    · exact J.lt k h
    · simp at h; subst h; exact hj⟩
  have h2 := h1.len
  rw [List.length_append] at h2
  exact ⟨h1, by simp, by simpa using h2⟩
/-- Some entry that has been met is so. -/
def Met {α : Type} (kv : List (α × Value)) (sn : List Nat) (p : α → Prop) : Prop := ∃ j ∈ sn, ∃ y v, kv[j]? = some (y, v) ∧ p y
theorem Met.nil {α : Type} {kv : List (α × Value)} {p : α → Prop} : ¬ Met kv [] p := fun ⟨_, h, _⟩ => by cases h
theorem Met.snoc {α : Type} {kv : List (α × Value)} {sn : List Nat} {p : α → Prop} {j : Nat} {y : α} {v : Value} (hj : kv[j]? = some (y, v)) : Met kv (sn ++ [j]) p ↔ Met kv sn p ∨ p y := by
  constructor
  · rintro ⟨k, hk, z, u, h1, h2⟩
    rcases List.mem_append.1 hk with h | h
    · exact .inl ⟨k, h, z, u, h1, h2⟩
    · simp at h; subst h; rw [hj] at h1; cases h1; exact .inr h2
  · rintro (⟨k, hk, r⟩ | h)
    · exact ⟨k, List.mem_append_left _ hk, r⟩
    · exact ⟨j, by simp, y, v, hj, h⟩
theorem Met.all {α : Type} [DecidableEq α] {l : List α} {sn : List Nat} {p : α → Prop} (ha : ∀ k, k < (insAll l).length → k ∈ sn) : Met (insAll l) sn p ↔ ∃ y ∈ l, p y := by
  constructor
  · rintro ⟨k, _, y, v, h1, h2⟩; exact ⟨y, (insAll_get y).1 ⟨k, v, h1⟩, h2⟩
  · rintro ⟨y, hy, h2⟩
    obtain ⟨k, v, h1⟩ := (insAll_get y).2 hy
    exact ⟨k, ha k (List.getElem?_eq_some_iff.1 h1).1, y, v, h1, h2⟩
theorem encs_len {α : Type} (enc : α → Value) (l : List (α × Value)) : (encs enc l).length = l.length := by simp [encs]
end Go.HL
/- Walks: in which weeks joints fail. Conditions: as each theorem states. -/
namespace Go.Proofs.Ytledjpdpkbifgaa
open Go Go.HL Go.Proofs Go.Wx
variable [Lvl]
set_option maxRecDepth 100000
theorem isJoint1_ask (s : Season) (j : Int) (A0 A1 A2 A3 : Option Addr) (c0 c1 c2 c3 b1 b2 : Nat) (h2 : s.joints.length < 2 ^ 40) (h : AH) (e1 : h b1 = some (.cells #[.int .i64 j] 3 (0, 0))) (e2 : h b2 = some (.cells #[.slice A0 s.heats.length c0, .slice A1 s.damps.length c1, .slice A2 s.joints.length c2, .slice A3 s.reports.length c3] 29 (0, 0))) :
    AskT (.func (.func 33) #[] #[.pointer (some ⟨b1, 0, none⟩), .pointer (some ⟨b2, 0, none⟩)]) h (isJointM s j) := by
  intro h' E _
  refine callV_fn (caps := [.pointer (some ⟨b1, 0, none⟩), .pointer (some ⟨b2, 0, none⟩)]) rfl ?_
  refine call_body Try.func33 rfl Try.ntmps33 rfl ?_
  refine xp_seq ?_
  refine xp_region rfl ?_
  refine op_pure (pv_assign (v := .int .i64 _) rfl) ?_
  refine xp_seq ?_
  refine xp_seq ?_
  refine xp_region rfl ?_
  refine op_load (v := .int .i64 _) rfl rfl (by simp only [cellA, E _ _ e1]; rfl) ?_
  refine op_pure (pv_fieldAddr rfl rfl rfl rfl _ rfl) ?_
  refine op_load (v := .slice _ _ _) rfl rfl (by simp only [cellA, E _ _ e2]; rfl) ?_
  refine op_pure (pv_len rfl rfl) ?_
  refine op_pure (pv_arith rfl (by omega)) ?_
  refine op_fn (caps := []) (vs := [.int .i64 _, .int .i64 _, .int .i64 _]) rfl rfl rfl (in_ok _ _ _ h') ?_
  rintro _ h3 E3 rfl
  refine op_pure (pv_of (v := .bool _) rfl) ?_
  refine xp_cond rfl (fun hc => ?_) (fun hc => ?_)
  · skip
    have hb : inM j 0 (s.joints.length - 1) = false := by
      cases hb : inM j 0 (s.joints.length - 1) with
      | false => rfl
      | true => unfold inM at hb; rw [hb] at hc; cases hc
    refine xp_seq ?_
    refine xp_region rfl ?_
    refine op_pure (pv_assign (v := .int .i64 _) rfl) ?_
    refine xp_ret ?_
    refine res_list (vs := [_]) Try.results33 ⟨resV_tmp rfl rfl, trivial⟩ fun V => ?_
    exact ⟨(Ext.trans E3 (ext_wl V)), intE (by rw [isJointM, hb]; rfl)⟩
  · skip
    have hb : inM j 0 (s.joints.length - 1) = true := by
      cases hb : inM j 0 (s.joints.length - 1) with
      | true => rfl
      | false => unfold inM at hb; rw [hb] at hc; cases hc
    refine xp_skip ?_
    refine xp_seq ?_
    refine xp_region rfl ?_
    refine op_pure (pv_assign (v := .int .i64 _) rfl) ?_
    refine xp_ret ?_
    refine res_list (vs := [_]) Try.results33 ⟨resV_tmp rfl rfl, trivial⟩ fun V => ?_
    exact ⟨(Ext.trans E3 (ext_wl V)), intE (by rw [isJointM, hb]; rfl)⟩
theorem isJoint_ok (s : Season) (j : Int) (A0 A1 A2 A3 : Option Addr) (c0 c1 c2 c3 : Nat) (h2 : s.joints.length < 2 ^ 40) (h : AH) :
    FnT Try.prog 19 #[seasonV A0 A1 A2 A3 c0 c1 c2 c3 s, .int .i64 j] h (fun v h' => ∃ fn caps, v = .func (.func fn) #[] caps ∧ AskT v h' (isJointM s j)) := by
  refine call_body Try.func19 rfl Try.ntmps19 rfl ?_
  refine xp_seq ?_
  refine xp_region rfl ?_
  refine op_box (v := .agg #[.slice _ _ _, .slice _ _ _, .slice _ _ _, .slice _ _ _]) (cs := [_, _, _, _]) rfl rfl fun b2 hb2 => ?_
  refine wp_norm [_] rfl ?_
  refine op_box (v := .int .i64 _) (cs := [_]) rfl rfl fun b3 hb3 => ?_
  refine wp_norm [_, _] rfl ?_
  refine op_pure (pv_assign (v := _) rfl) ?_
  refine xp_seq ?_
  refine xp_region rfl ?_
  refine op_pure (pv_makeFunc (vs := []) (ws := [_, _]) rfl rfl) ?_
  refine op_pure (pv_assign (v := _) rfl) ?_
  refine xp_ret ?_
  refine res_list (vs := [_]) Try.results19 ⟨resV_tmp rfl rfl, trivial⟩ fun V => ?_
  exact ⟨(ext_wl V), _, _, rfl, isJoint1_ask s j A0 A1 A2 A3 c0 c1 c2 c3 b3 b2 h2 _ (wl_get V (i := 1) rfl) (wl_get V (i := 0) rfl)⟩
theorem isWeek1_ask (s : Season) (j : Int) (A0 A1 A2 A3 : Option Addr) (c0 c1 c2 c3 b1 b2 : Nat) (h2 : s.heats.length < 2 ^ 40) (h : AH) (e1 : h b1 = some (.cells #[.int .i64 j] 3 (0, 0))) (e2 : h b2 = some (.cells #[.slice A0 s.heats.length c0, .slice A1 s.damps.length c1, .slice A2 s.joints.length c2, .slice A3 s.reports.length c3] 29 (0, 0))) :
    AskT (.func (.func 35) #[] #[.pointer (some ⟨b1, 0, none⟩), .pointer (some ⟨b2, 0, none⟩)]) h (isWeekM s j) := by
  intro h' E _
  refine callV_fn (caps := [.pointer (some ⟨b1, 0, none⟩), .pointer (some ⟨b2, 0, none⟩)]) rfl ?_
  refine call_body Try.func35 rfl Try.ntmps35 rfl ?_
  refine xp_seq ?_
  refine xp_region rfl ?_
  refine op_pure (pv_assign (v := .int .i64 _) rfl) ?_
  refine xp_seq ?_
  refine xp_seq ?_
  refine xp_region rfl ?_
  refine op_load (v := .int .i64 _) rfl rfl (by simp only [cellA, E _ _ e1]; rfl) ?_
  refine op_pure (pv_fieldAddr rfl rfl rfl rfl _ rfl) ?_
  refine op_load (v := .slice _ _ _) rfl rfl (by simp only [cellA, E _ _ e2]; rfl) ?_
  refine op_pure (pv_len rfl rfl) ?_
  refine op_pure (pv_arith rfl (by omega)) ?_
  refine op_fn (caps := []) (vs := [.int .i64 _, .int .i64 _, .int .i64 _]) rfl rfl rfl (in_ok _ _ _ h') ?_
  rintro _ h3 E3 rfl
  refine op_pure (pv_of (v := .bool _) rfl) ?_
  refine xp_cond rfl (fun hc => ?_) (fun hc => ?_)
  · skip
    have hb : inM j 0 (s.heats.length - 1) = false := by
      cases hb : inM j 0 (s.heats.length - 1) with
      | false => rfl
      | true => unfold inM at hb; rw [hb] at hc; cases hc
    refine xp_seq ?_
    refine xp_region rfl ?_
    refine op_pure (pv_assign (v := .int .i64 _) rfl) ?_
    refine xp_ret ?_
    refine res_list (vs := [_]) Try.results35 ⟨resV_tmp rfl rfl, trivial⟩ fun V => ?_
    exact ⟨(Ext.trans E3 (ext_wl V)), intE (by rw [isWeekM, hb]; rfl)⟩
  · skip
    have hb : inM j 0 (s.heats.length - 1) = true := by
      cases hb : inM j 0 (s.heats.length - 1) with
      | true => rfl
      | false => unfold inM at hb; rw [hb] at hc; cases hc
    refine xp_skip ?_
    refine xp_seq ?_
    refine xp_region rfl ?_
    refine op_pure (pv_assign (v := .int .i64 _) rfl) ?_
    refine xp_ret ?_
    refine res_list (vs := [_]) Try.results35 ⟨resV_tmp rfl rfl, trivial⟩ fun V => ?_
    exact ⟨(Ext.trans E3 (ext_wl V)), intE (by rw [isWeekM, hb]; rfl)⟩
theorem isWeek_ok (s : Season) (j : Int) (A0 A1 A2 A3 : Option Addr) (c0 c1 c2 c3 : Nat) (h2 : s.heats.length < 2 ^ 40) (h : AH) :
    FnT Try.prog 20 #[seasonV A0 A1 A2 A3 c0 c1 c2 c3 s, .int .i64 j] h (fun v h' => ∃ fn caps, v = .func (.func fn) #[] caps ∧ AskT v h' (isWeekM s j)) := by
  refine call_body Try.func20 rfl Try.ntmps20 rfl ?_
  refine xp_seq ?_
  refine xp_region rfl ?_
  refine op_box (v := .agg #[.slice _ _ _, .slice _ _ _, .slice _ _ _, .slice _ _ _]) (cs := [_, _, _, _]) rfl rfl fun b2 hb2 => ?_
  refine wp_norm [_] rfl ?_
  refine op_box (v := .int .i64 _) (cs := [_]) rfl rfl fun b3 hb3 => ?_
  refine wp_norm [_, _] rfl ?_
  refine op_pure (pv_assign (v := _) rfl) ?_
  refine xp_seq ?_
  refine xp_region rfl ?_
  refine op_pure (pv_makeFunc (vs := []) (ws := [_, _]) rfl rfl) ?_
  refine op_pure (pv_assign (v := _) rfl) ?_
  refine xp_ret ?_
  refine res_list (vs := [_]) Try.results20 ⟨resV_tmp rfl rfl, trivial⟩ fun V => ?_
  exact ⟨(ext_wl V), _, _, rfl, isWeek1_ask s j A0 A1 A2 A3 c0 c1 c2 c3 b3 b2 h2 _ (wl_get V (i := 1) rfl) (wl_get V (i := 0) rfl)⟩
theorem verdict_ok (a b : Bool) (h : AH) : FnT Try.prog 37 #[.bool a, .bool b] h (fun v _ => v = .int .i64 (verdictM a b)) := by
  refine call_body Try.func37 rfl Try.ntmps37 rfl ?_
  refine xp_seq ?_
  refine xp_region rfl ?_
  refine op_pure (pv_assign (v := .int .i64 _) rfl) ?_
  refine xp_seq ?_
  refine xp_block ?_
  refine xp_seq ?_
  refine xp_region rfl ?_
  refine op_pure (pv_move (v := .bool _) rfl) ?_
  refine op_pure (pv_of (v := .bool _) rfl) ?_
  refine op_pure (pv_assign (v := .bool _) rfl) ?_
  refine xp_cond rfl (fun hc1 => ?_) (fun hc1 => ?_)
  · refine xp_seq ?_
    refine xp_region rfl ?_
    refine op_pure (pv_assign (v := .int .i64 _) rfl) ?_
    refine xp_ret ?_
    refine res_list (vs := [_]) Try.results37 ⟨resV_tmp rfl rfl, trivial⟩ fun V => ?_
    exact ⟨(ext_wl V), intE (by simp_all [verdictM])⟩
  · refine xp_seq ?_
    refine xp_region rfl ?_
    refine op_pure (pv_move (v := .bool _) rfl) ?_
    refine op_pure (pv_of (v := .bool _) rfl) ?_
    refine op_pure (pv_assign (v := .bool _) rfl) ?_
    refine xp_cond rfl (fun hc2 => ?_) (fun hc2 => ?_)
    · refine xp_seq ?_
      refine xp_region rfl ?_
      refine op_pure (pv_assign (v := .int .i64 _) rfl) ?_
      refine xp_ret ?_
      refine res_list (vs := [_]) Try.results37 ⟨resV_tmp rfl rfl, trivial⟩ fun V => ?_
      exact ⟨(ext_wl V), intE (by simp_all [verdictM])⟩
    · refine xp_skip ?_
      refine xp_seq ?_
      refine xp_region rfl ?_
      refine op_pure (pv_assign (v := .int .i64 _) rfl) ?_
      refine xp_ret ?_
      refine res_list (vs := [_]) Try.results37 ⟨resV_tmp rfl rfl, trivial⟩ fun V => ?_
      exact ⟨(ext_wl V), intE (by simp_all [verdictM])⟩
theorem of2_ok (s : Season) (n : Int) (hn : n = 1 ∨ n = 2) (A : Option Addr) (c mf : Nat) (fm : Nat → Nat) (fl : Nat → List Fl) (A' : Option Addr) (c' mf' : Nat) (fm' : Nat → Nat) (fl' : Nat → List Fl) (h : AH) (X : HalfX h s 1 A mf fm fl) (X' : HalfX h s 2 A' mf' fm' fl') :
    FnT Try.prog 49 #[.agg (halfC s 1 A c mf fm ++ halfC s 2 A' c' mf' fm').toArray, .int .i64 n] h (fun v h' => HalfR h' s n v) := by
  refine CallT.mono (of_ok s n A c mf fm A' c' mf' fm' h) ?_ (fun _ _ y => y)
  rintro v h' ⟨E, rfl⟩
  rcases hn with rfl | rfl
  · exact ⟨E, A, c, mf, fm, fl, rfl, X.ext E⟩
  · exact ⟨E, A', c', mf', fm', fl', rfl, X'.ext E⟩
theorem m3idx {N : Nat} (fm : Nat → Nat) : ∀ q : Nat, q < 3 → q < N → [mvk N fm 0, mvk N fm 1, mvk N fm 2][(q : Int).toNat]? = some (.map (some (fm q)))
  | 0, _, h => by simp [h]
  | 1, _, h => by simp [mvk, h]
  | 2, _, h => by simp [mvk, h]
  | q + 3, h, _ => by omega
theorem fails_ok (s : Season) (SV : SeasonV s) (j : Nat) (hj : j < s.joints.length) (A : Option Addr) (c mf : Nat) (fm : Nat → Nat) (fl : Nat → List Fl) (A' : Option Addr) (c' mf' : Nat) (fm' : Nat → Nat) (fl' : Nat → List Fl) (A0 A1 A2 A3 : Option Addr) (c0 c1 c2 c3 : Nat) (h : AH) (R : SeasonR h A0 A1 A2 A3 s) (X : HalfX h s 1 A mf fm fl) (X' : HalfX h s 2 A' mf' fm' fl') :
    FnT Try.prog 36 #[.agg (halfC s 1 A c mf fm ++ halfC s 2 A' c' mf' fm').toArray, seasonV A0 A1 A2 A3 c0 c1 c2 c3 s, .int .i64 j] h (fun v _ => v = .int .u64 (failsM s j : Nat)) := by
  have hj3 : j < 3 := by have := SV.b.j3; omega
  have hji : s.joints[j]? = some s.joints[j] := List.getElem?_eq_getElem hj
  have hka : kindAt s j = s.joints[j].kind := by simp [kindAt, hji]
  obtain ⟨g, off, hA2, hcj⟩ := R.joints.at (by omega) hj
  refine call_body Try.func36 rfl Try.ntmps36 rfl ?_
  refine xp_seq ?_
  refine xp_region rfl ?_
  refine op_box (v := .agg #[.slice _ _ _, .map _, .map _, .map _, .map _, .slice _ _ _, .map _, .map _, .map _, .map _]) (cs := [_, _, _, _, _, _, _, _, _, _]) rfl rfl fun b3 hb3 => ?_
  refine wp_norm [_] rfl ?_
  refine op_box (v := .agg #[.slice _ _ _, .slice _ _ _, .slice _ _ _, .slice _ _ _]) (cs := [_, _, _, _]) rfl rfl fun b4 hb4 => ?_
  refine wp_norm [_, _] rfl ?_
  refine op_pure (pv_assign (v := .int .u64 _) rfl) ?_
  refine xp_seq ?_
  refine xp_region rfl ?_
  refine op_pure (pv_assign (v := .int .u64 _) rfl) ?_
  refine xp_seq ?_
  refine xp_seq ?_
  refine xp_dw [] rfl rfl rfl ?_
  refine dw_load (i := 0) rfl (by decide +kernel) ?_
  refine op_loadPA 0 (vs := [.slice _ _ _, .map _, .map _, .map _, .map _, .slice _ _ _, .map _, .map _, .map _, .map _]) rfl rfl rfl rfl rfl ?_
  refine dw_pure (i := 1) rfl (by decide +kernel) (pv_fieldAddr rfl rfl rfl rfl 2 rfl) ?_
  refine dw_load (i := 2) rfl (by decide +kernel) ?_
  refine op_loadP 1 (v := .slice _ _ _) rfl rfl rfl rfl ?_
  refine dw_pure (i := 3) rfl (by decide +kernel) (pv_move (v := .int .i64 _) rfl) ?_
  refine dw_pure (i := 4) rfl (by decide +kernel) (pv_indexE rfl hA2 rfl rfl rfl (by omega) (by omega)) ?_
  refine dw_pure (i := 5) rfl (by decide +kernel) (pv_fieldAddr rfl rfl rfl rfl _ rfl) ?_
  refine dw_load (i := 6) rfl (by decide +kernel) ?_
  refine op_load (v := .int .i64 _) rfl rfl (hcj 0 (.int .i64 s.joints[j].kind) rfl) ?_
  refine dw_pure (i := 9) rfl (by decide +kernel) (pv_move (v := .int .i64 _) rfl) ?_
  refine dw_last (i := 7) rfl (by decide +kernel) (by decide +kernel) ?_
  refine op_fn (caps := []) (vs := [.agg #[.slice _ _ _, .map _, .map _, .map _, .map _, .slice _ _ _, .map _, .map _, .map _, .map _], .int .i64 _]) rfl rfl rfl (of2_ok s s.joints[j].kind (SV.kinds _ (List.getElem_mem hj)) A c mf fm fl A' c' mf' fm' fl' h X X') ?_
  rintro _ h1 E1 ⟨Ah, ch, mh, fmh, flh, rfl, Xh⟩
  refine dw_pure (i := 8) rfl (by decide +kernel) (pv_of (v := .agg #[.map _, .map _, .map _]) rfl) ?_
  refine dw_pure (i := 10) rfl (by decide +kernel) (pv_indexV rfl rfl rfl rfl rfl (by omega) (by omega) (m3idx fmh j hj3 hj)) ?_
  refine dw_last (i := 11) rfl (by decide +kernel) (by decide +kernel) ?_
  refine op_range rfl rfl (fun V => ext_wl V _ _ (Xh.fs j hj).1) fun it20 hit20 => ?_
  refine dw_norm [_, _, _] rfl ?_
  refine dw_end rfl ?_
  refine xp_block ?_
  refine xp_loopL [7, 8, 21, 22, 23, 24, 25, 26, 27, 28] 3 (α := List Nat × Nat) (fun ⟨sn, m⟩ => [(7, .int .u64 (m : Nat))]) (fun ⟨sn, m⟩ L => L.set 2 (some (it20, iterO (fmh j) (encs flV (insAll (flh j))).length sn))) (fun ⟨sn, m⟩ h_sn => SeenJ (insAll (flh j)).length sn ∧ m < 2 ^ 62 ∧ ∀ w, m.testBit w = true ↔ Met (insAll (flh j)) sn (fun y => y.week = w)) (fun ⟨sn, m⟩ => (insAll (flh j)).length - sn.length) (([], 0)) ⟨rfl, trivial⟩ (rfl) (⟨SeenJ.nil _, by omega, fun w => by simp [Met.nil]⟩) ?_
  rintro ⟨sn, m⟩ T1 h_sn E_sn J_sn
  refine goes_norm [_, _, _] rfl ?_
  obtain ⟨S1, S2, S3⟩ := J_sn
  have hmm := E_sn _ _ (Xh.fs j hj).1
  refine xp_seq ?_
  refine xp_region rfl ?_
  refine op_next 2 rfl rfl (fun V => ext_wl V _ _ hmm) ?_ ?_
  · intro jx p hp hjn
    obtain ⟨y, v, hy, rfl⟩ := encs_get hp
    have hyw : y.week ≤ 6 := by
      have := flsK_week (((Xh.fs j hj).2 y).1 ((insAll_get y).1 ⟨jx, v, hy⟩))
      have := SV.b.w6
      omega
    obtain ⟨T1, T2, T3⟩ := S1.snoc (List.getElem?_eq_some_iff.1 hy).1 hjn
    refine op_pure (pv_of (v := .bool _) rfl) ?_
    refine xp_seq ?_
    refine xp_condT rfl (rfl) ?_
    refine xp_skip ?_
    refine xp_block ?_
    refine xp_seq ?_
    refine xp_region rfl ?_
    refine op_entry 2 rfl rfl (fun V => ext_wl V _ _ hmm) hp ?_
    refine op_pure (pv_of (v := .agg #[.int .i64 _, .int .i64 _]) rfl) ?_
    refine op_alloc (cs := [_, _]) rfl rfl fun b8 hb8 => ?_
    refine wp_norm [_, _, _, _] rfl ?_
    refine op_storeP 3 (v := .agg #[.int .i64 _, .int .i64 _]) (vs := [_, _]) (c' := [_, _]) rfl rfl rfl rfl rfl rfl rfl rfl rfl ?_
    refine wp_norm [_, _, _, _] rfl ?_
    refine xp_region rfl ?_
    refine op_pure (pv_move (v := .int .u64 _) rfl) ?_
    refine op_pure (pv_fieldAddr rfl rfl rfl rfl 0 rfl) ?_
    refine op_loadP 3 (v := .int .i64 _) rfl rfl rfl rfl ?_
    refine op_fn (caps := []) (vs := [.int .u64 _, .int .i64 _]) rfl rfl rfl (with_ok m _ y.week rfl S2 (by omega) h_sn) ?_
    rintro _ h2 E2 rfl
    refine op_pure (pv_assign (v := .int .u64 _) rfl) ?_
    refine ⟨(sn ++ [jx], withM m y.week), ⟨rfl, trivial⟩, rfl, rfl, (Ext.trans E_sn E2), fun h3 E3 => ⟨T1, withM_lt S2 (by omega), fun w => by rw [withM, Nat.testBit_or, Nat.testBit_two_pow, Bool.or_eq_true, S3 w, Met.snoc hy, decide_eq_true_eq]⟩, by first | omega | (dsimp only; omega), ?_⟩
    repeat (first | exact off_base _ _ _ | refine off_upd (by decide) ?_ | refine off_updL rfl ?_ | refine off_mix rfl ?_)
  · intro hall
    refine op_pure (pv_of (v := .bool _) rfl) ?_
    refine xp_seq ?_
    refine xp_condF rfl (rfl) ?_
    refine xp_exit ?_
    refine xp_seq ?_
    refine xp_region rfl ?_
    refine op_pure (pv_move (v := .int .u64 _) rfl) ?_
    refine op_pure (pv_assign (v := .int .u64 _) rfl) ?_
    refine xp_ret ?_
    refine res_list (vs := [_]) Try.results36 ⟨resV_tmp rfl rfl, trivial⟩ fun V => ?_
    refine ⟨(Ext.trans (Ext.trans E1 E_sn) (ext_wl V)), intE ?_⟩
    have e : m = failsM s j := by
      unfold failsM
      refine mask_unique fun w => ?_
      rw [S3 w, Met.all (fun k hk => hall k (by rw [encs_len]; exact hk)), hka]
      constructor
      · rintro ⟨y, hy, e⟩; exact ⟨y, ((Xh.fs j hj).2 y).1 hy, e⟩
      · rintro ⟨y, hy, e⟩; exact ⟨y, ((Xh.fs j hj).2 y).2 hy, e⟩
    rw [e]
/-- Bounds that every season's lists keep. -/
structure Small (s : Season) : Prop where
  h0 : s.heats.length < 2 ^ 40
  h1 : s.damps.length < 2 ^ 40
  h2 : s.joints.length < 2 ^ 40
  h3 : s.reports.length < 2 ^ 40
theorem inM_nat {j : Int} {n : Nat} (h : inM j 0 (n - 1) = true) : ∃ i : Nat, j = i ∧ i < n := by
  unfold inM at h
  simp only [Bool.and_eq_true, decide_eq_true_eq] at h
  exact ⟨j.toNat, by omega, by omega⟩
theorem isJointM_zero {s : Season} {j : Int} (h : isJointM s j = 0) : ∃ i : Nat, j = i ∧ i < s.joints.length := by
  unfold isJointM at h
  split at h
  · rename_i h1; exact inM_nat h1
  · cases h
theorem isWeekM_zero {s : Season} {w : Int} (h : isWeekM s w = 0) : ∃ i : Nat, w = i ∧ i < s.heats.length := by
  unfold isWeekM at h
  split at h
  · rename_i h1; exact inM_nat h1
  · cases h
theorem ask1 {h : AH} {f : Value} {e : Int} (a : AskT f h e) : ∀ (i : Nat) (g : Value) (e' : Int), [f][i]? = some g → [e][i]? = some e' → AskT g h e'
  | 0, _, _, hg, he => by cases hg; cases he; exact a
  | i + 1, _, _, hg, _ => by simp at hg
theorem ask2 {h : AH} {f f' : Value} {e e2 : Int} (a : AskT f h e) (a2 : AskT f' h e2) : ∀ (i : Nat) (g : Value) (e' : Int), [f, f'][i]? = some g → [e, e2][i]? = some e' → AskT g h e'
  | 0, _, _, hg, he => by cases hg; cases he; exact a
  | 1, _, _, hg, he => by cases hg; cases he; exact a2
  | i + 2, _, _, hg, _ => by simp at hg
theorem rowFn {h : AH} {b : Nat} {fs : List Value} {t : TypeId} (e : h b = some (.cells fs.toArray t (0, 0))) : Row h 1 fnC (some ⟨b, 0, none⟩) fs := by
  refine ⟨fun _ _ => rfl, fun _ => ⟨b, 0, rfl, fun j u hu => ?_⟩⟩
  have hf : ∀ l : List Value, l.flatMap fnC = l := by
    intro l
    induction l with
    | nil => rfl
    | cons a l ih => rw [List.flatMap_cons, ih]; rfl
  rw [hf] at hu
  simp only [cellA, e, Nat.zero_add]
  simpa using hu
theorem failed_ok (s : Season) (SV : SeasonV s) (j w : Nat) (hj : j < s.joints.length) (hw : w < s.heats.length) (A : Option Addr) (c mf : Nat) (fm : Nat → Nat) (fl : Nat → List Fl) (A' : Option Addr) (c' mf' : Nat) (fm' : Nat → Nat) (fl' : Nat → List Fl) (A0 A1 A2 A3 : Option Addr) (c0 c1 c2 c3 : Nat) (h : AH) (R : SeasonR h A0 A1 A2 A3 s) (X : HalfX h s 1 A mf fm fl) (X' : HalfX h s 2 A' mf' fm' fl') :
    FnT Try.prog 21 #[.agg (halfC s 1 A c mf fm ++ halfC s 2 A' c' mf' fm').toArray, seasonV A0 A1 A2 A3 c0 c1 c2 c3 s, .int .i64 j, .int .i64 w] h (fun v _ => v = .int .i64 (failedM s j w)) := by
  have hw6 := SV.b.w6
  have hfl := failsM_lt hw6 j
  refine call_body Try.func21 rfl Try.ntmps21 rfl ?_
  refine xp_seq ?_
  refine xp_region rfl ?_
  refine op_box (v := .agg #[.slice _ _ _, .map _, .map _, .map _, .map _, .slice _ _ _, .map _, .map _, .map _, .map _]) (cs := [_, _, _, _, _, _, _, _, _, _]) rfl rfl fun b4 hb4 => ?_
  refine wp_norm [_] rfl ?_
  refine op_box (v := .agg #[.slice _ _ _, .slice _ _ _, .slice _ _ _, .slice _ _ _]) (cs := [_, _, _, _]) rfl rfl fun b5 hb5 => ?_
  refine wp_norm [_, _] rfl ?_
  refine op_pure (pv_assign (v := .int .i64 _) rfl) ?_
  refine xp_seq ?_
  refine xp_region rfl ?_
  refine op_loadPA 0 (vs := [.slice _ _ _, .map _, .map _, .map _, .map _, .slice _ _ _, .map _, .map _, .map _, .map _]) rfl rfl rfl rfl rfl ?_
  refine op_loadPA 1 (vs := [.slice _ _ _, .slice _ _ _, .slice _ _ _, .slice _ _ _]) rfl rfl rfl rfl rfl ?_
  refine op_pure (pv_move (v := .int .i64 _) rfl) ?_
  refine op_fn (caps := []) (vs := [.agg #[.slice _ _ _, .map _, .map _, .map _, .map _, .slice _ _ _, .map _, .map _, .map _, .map _], .agg #[.slice _ _ _, .slice _ _ _, .slice _ _ _, .slice _ _ _], .int .i64 _]) rfl rfl rfl (fails_ok s SV j hj A c mf fm fl A' c' mf' fm' fl' A0 A1 A2 A3 c0 c1 c2 c3 h R X X') ?_
  rintro _ h1 E1 rfl
  refine op_pure (pv_assign (v := .int .u64 _) rfl) ?_
  refine xp_seq ?_
  refine xp_region rfl ?_
  refine op_pure (pv_move (v := .int .u64 _) rfl) ?_
  refine op_pure (pv_move (v := .int .i64 _) rfl) ?_
  refine op_fn (caps := []) (vs := [.int .u64 _, .int .i64 _]) rfl rfl rfl (upto_ok (failsM s j) w (by omega) (by omega) h1) ?_
  rintro _ h2 E2 rfl
  refine op_pure (pv_of (v := .bool _) rfl) ?_
  refine op_pure (pv_move (v := .int .u64 _) rfl) ?_
  refine op_pure (pv_move (v := .int .u64 _) rfl) ?_
  refine op_pure (pv_move (v := .int .i64 _) rfl) ?_
  refine op_fn (caps := []) (vs := [.int .u64 _, .int .i64 _]) rfl rfl rfl (upto_ok (failsM s j) w (by omega) (by omega) h2) ?_
  rintro _ h3 E3 rfl
  refine op_pure (pv_of (v := .bool _) rfl) ?_
  refine op_fn (caps := []) (vs := [.bool _, .bool _]) rfl rfl rfl (verdict_ok _ _ h3) ?_
  rintro _ h4 E4 rfl
  refine op_pure (pv_assign (v := .int .i64 _) rfl) ?_
  refine xp_ret ?_
  refine res_list (vs := [_]) Try.results21 ⟨resV_tmp rfl rfl, trivial⟩ fun V => ?_
  refine ⟨(Ext.trans (Ext.trans (Ext.trans (Ext.trans E1 E2) E3) E4) (ext_wl V)), intE ?_⟩
  unfold failedM
  congr 1
  · rw [Bool.eq_iff_iff]; simp
  · rw [Bool.eq_iff_iff]; simp
    omega
def failedE (s : Season) (j w : Int) : Int := knownM s [isJointM s j, isWeekM s w]
def failedV (s : Season) (j w : Int) : Int := if failedE s j w = 0 then failedM s j.toNat w.toNat else 0
theorem firstErr2 {a b : Int} (h : firstErr id [a, b] = 0) : a = 0 ∧ b = 0 := ⟨firstErr_zero h a (by simp), firstErr_zero h b (by simp)⟩
theorem Failed_ok (s : Season) (Sm : Small s) (joint week : Int) (A0 A1 A2 A3 : Option Addr) (c0 c1 c2 c3 : Nat) (h : AH) (R : SeasonR h A0 A1 A2 A3 s) :
    FnT Try.prog 7 #[seasonV A0 A1 A2 A3 c0 c1 c2 c3 s, .int .i64 joint, .int .i64 week] h (fun v _ => v = .tuple #[.int .i64 (failedV s joint week), .int .i64 (failedE s joint week)]) := by
  by_cases he : failedE s joint week = 0
  · have hk := knownM_zero he
    have SV := checkM_zero hk.1
    obtain ⟨hj0, hw0⟩ := firstErr2 hk.2.1
    obtain ⟨j, rfl, hj⟩ := isJointM_zero hj0
    obtain ⟨w, rfl, hw⟩ := isWeekM_zero hw0
    refine call_body Try.func7 rfl Try.ntmps7 rfl ?_
    refine xp_seq ?_
    refine xp_region rfl ?_
    refine op_box (v := .agg #[.slice _ _ _, .slice _ _ _, .slice _ _ _, .slice _ _ _]) (cs := [_, _, _, _]) rfl rfl fun b3 hb3 => ?_
    refine wp_norm [_] rfl ?_
    refine op_pure (pv_assign (v := .int .i64 _) rfl) ?_
    refine op_pure (pv_assign (v := .int .i64 _) rfl) ?_
    refine xp_seq ?_
    refine xp_dw [] rfl rfl rfl ?_
    refine dw_load (i := 0) rfl (by decide +kernel) ?_
    refine op_loadPA 0 (vs := [.slice _ _ _, .slice _ _ _, .slice _ _ _, .slice _ _ _]) rfl rfl rfl rfl rfl ?_
    refine dw_load (i := 1) rfl (by decide +kernel) ?_
    refine op_loadPA 0 (vs := [.slice _ _ _, .slice _ _ _, .slice _ _ _, .slice _ _ _]) rfl rfl rfl rfl rfl ?_
    refine dw_pure (i := 2) rfl (by decide +kernel) (pv_move (v := .int .i64 _) rfl) ?_
    refine dw_load (i := 4) rfl (by decide +kernel) ?_
    refine op_loadPA 0 (vs := [.slice _ _ _, .slice _ _ _, .slice _ _ _, .slice _ _ _]) rfl rfl rfl rfl rfl ?_
    refine dw_pure (i := 5) rfl (by decide +kernel) (pv_move (v := .int .i64 _) rfl) ?_
    refine dw_eff (i := 3) rfl (by decide +kernel) ?_
    refine op_fn (caps := []) (vs := [.agg #[.slice _ _ _, .slice _ _ _, .slice _ _ _, .slice _ _ _], .int .i64 _]) rfl rfl rfl (isJoint_ok s j A0 A1 A2 A3 c0 c1 c2 c3 Sm.h2 h) ?_
    rintro _ h1 E1 ⟨fn, caps, rfl, ak⟩
    refine ⟨ext_wlm E1 _, ?_⟩
    refine dw_eff (i := 6) rfl (by decide +kernel) ?_
    refine op_fn (caps := []) (vs := [.agg #[.slice _ _ _, .slice _ _ _, .slice _ _ _, .slice _ _ _], .int .i64 _]) rfl rfl rfl (isWeek_ok s w A0 A1 A2 A3 c0 c1 c2 c3 Sm.h0 h1) ?_
    rintro _ h1' E1' ⟨fn', caps', rfl, ak'⟩
    refine ⟨ext_wlm E1' _, ?_⟩
    refine dw_eff (i := 7) rfl (by decide +kernel) ?_
    refine op_buildSlice (zc := [_]) (vs := [(0, _), (1, _)]) (cs := [_, _]) rfl rfl rfl rfl rfl rfl rfl fun b18 hb18 => ?_
    refine ⟨ext_new hb18 _, ?_⟩
    refine dw_norm [_, _] rfl ?_
    refine dw_pub 1 rfl ?_
    intro h2 E2 p13
    refine dw_norm [_, _] rfl ?_
    refine dw_last (i := 8) rfl (by decide +kernel) (by decide +kernel) ?_
    refine op_fn (caps := []) (vs := [.agg #[.slice _ _ _, .slice _ _ _, .slice _ _ _, .slice _ _ _], .slice _ _ _]) rfl rfl rfl (known_yes s A0 A1 A2 A3 c0 c1 c2 c3 h2 (R.ext (Ext.trans (Ext.trans E1 E1') E2)) Sm.h0 Sm.h1 Sm.h2 Sm.h3 [_, _] [_, _] _ _ (rowFn p13) rfl (by simp) (ask2 (ak.ext (Ext.trans E1' E2)) (ak'.ext E2)) he) ?_
    rintro _ h3 E3 ⟨A, c, mf, fm, fl, A', c', mf', fm', fl', rfl, X, X'⟩
    refine dw_pure (i := 9) rfl (by decide +kernel) (pv_move (v := .tuple #[.agg #[.slice _ _ _, .map _, .map _, .map _, .map _, .slice _ _ _, .map _, .map _, .map _, .map _], .int .i64 _]) rfl) ?_
    refine dw_pure (i := 10) rfl (by decide +kernel) (pv_of (v := .agg #[.slice _ _ _, .map _, .map _, .map _, .map _, .slice _ _ _, .map _, .map _, .map _, .map _]) rfl) ?_
    refine dw_pure (i := 11) rfl (by decide +kernel) (pv_of (v := .int .i64 _) rfl) ?_
    refine dw_eff (i := 12) rfl (by decide +kernel) ?_
    refine op_alloc (cs := [_, _, _, _, _, _, _, _, _, _]) rfl rfl fun b8 hb8 => ?_
    refine ⟨ext_new hb8 _, ?_⟩
    refine dw_norm [_, _, _] rfl ?_
    refine dw_last (i := 13) rfl (by decide +kernel) (by decide +kernel) ?_
    refine op_storeP 2 (v := .agg #[.slice _ _ _, .map _, .map _, .map _, .map _, .slice _ _ _, .map _, .map _, .map _, .map _]) (vs := [_, _, _, _, _, _, _, _, _, _]) (c' := [_, _, _, _, _, _, _, _, _, _]) rfl rfl rfl rfl rfl rfl rfl rfl rfl ?_
    refine dw_norm [_, _, _] rfl ?_
    refine dw_pure (i := 14) rfl (by decide +kernel) (pv_assign (v := .int .i64 _) rfl) ?_
    refine dw_end rfl ?_
    refine xp_seq ?_
    refine xp_seq ?_
    refine xp_region rfl ?_
    refine op_pure (pv_move (v := .int .i64 _) rfl) ?_
    refine op_pure (pv_of (v := .bool _) rfl) ?_
    refine xp_condF rfl (by decide) ?_
    refine xp_skip ?_
    refine xp_seq ?_
    refine xp_region rfl ?_
    refine op_loadPA 2 (vs := [.slice _ _ _, .map _, .map _, .map _, .map _, .slice _ _ _, .map _, .map _, .map _, .map _]) rfl rfl rfl rfl rfl ?_
    refine op_loadPA 0 (vs := [.slice _ _ _, .slice _ _ _, .slice _ _ _, .slice _ _ _]) rfl rfl rfl rfl rfl ?_
    refine op_pure (pv_move (v := .int .i64 _) rfl) ?_
    refine op_pure (pv_move (v := .int .i64 _) rfl) ?_
    refine op_fn (caps := []) (vs := [.agg #[.slice _ _ _, .map _, .map _, .map _, .map _, .slice _ _ _, .map _, .map _, .map _, .map _], .agg #[.slice _ _ _, .slice _ _ _, .slice _ _ _, .slice _ _ _], .int .i64 _, .int .i64 _]) rfl rfl rfl (failed_ok s SV j w hj hw A c mf fm fl A' c' mf' fm' fl' A0 A1 A2 A3 c0 c1 c2 c3 h3 (R.ext (Ext.trans (Ext.trans (Ext.trans E1 E1') E2) E3)) X X') ?_
    rintro _ h4 E4 rfl
    refine op_pure (pv_assign (v := .int .i64 _) rfl) ?_
    refine op_pure (pv_assign (v := .int .i64 _) rfl) ?_
    refine xp_ret ?_
    refine res_list (vs := [_, _]) Try.results7 ⟨resV_tmp rfl rfl, resV_tmp rfl rfl, trivial⟩ fun V => ?_
    exact ⟨(Ext.trans (Ext.trans (Ext.trans (Ext.trans (Ext.trans E1 E1') E2) E3) E4) (ext_wl V)), by rw [failedV, if_pos he, he]; rfl⟩
  · skip
    refine call_body Try.func7 rfl Try.ntmps7 rfl ?_
    refine xp_seq ?_
    refine xp_region rfl ?_
    refine op_box (v := .agg #[.slice _ _ _, .slice _ _ _, .slice _ _ _, .slice _ _ _]) (cs := [_, _, _, _]) rfl rfl fun b3 hb3 => ?_
    refine wp_norm [_] rfl ?_
    refine op_pure (pv_assign (v := .int .i64 _) rfl) ?_
    refine op_pure (pv_assign (v := .int .i64 _) rfl) ?_
    refine xp_seq ?_
    refine xp_dw [] rfl rfl rfl ?_
    refine dw_load (i := 0) rfl (by decide +kernel) ?_
    refine op_loadPA 0 (vs := [.slice _ _ _, .slice _ _ _, .slice _ _ _, .slice _ _ _]) rfl rfl rfl rfl rfl ?_
    refine dw_load (i := 1) rfl (by decide +kernel) ?_
    refine op_loadPA 0 (vs := [.slice _ _ _, .slice _ _ _, .slice _ _ _, .slice _ _ _]) rfl rfl rfl rfl rfl ?_
    refine dw_pure (i := 2) rfl (by decide +kernel) (pv_move (v := .int .i64 _) rfl) ?_
    refine dw_load (i := 4) rfl (by decide +kernel) ?_
    refine op_loadPA 0 (vs := [.slice _ _ _, .slice _ _ _, .slice _ _ _, .slice _ _ _]) rfl rfl rfl rfl rfl ?_
    refine dw_pure (i := 5) rfl (by decide +kernel) (pv_move (v := .int .i64 _) rfl) ?_
    refine dw_eff (i := 3) rfl (by decide +kernel) ?_
    refine op_fn (caps := []) (vs := [.agg #[.slice _ _ _, .slice _ _ _, .slice _ _ _, .slice _ _ _], .int .i64 _]) rfl rfl rfl (isJoint_ok s joint A0 A1 A2 A3 c0 c1 c2 c3 Sm.h2 h) ?_
    rintro _ h1 E1 ⟨fn, caps, rfl, ak⟩
    refine ⟨ext_wlm E1 _, ?_⟩
    refine dw_eff (i := 6) rfl (by decide +kernel) ?_
    refine op_fn (caps := []) (vs := [.agg #[.slice _ _ _, .slice _ _ _, .slice _ _ _, .slice _ _ _], .int .i64 _]) rfl rfl rfl (isWeek_ok s week A0 A1 A2 A3 c0 c1 c2 c3 Sm.h0 h1) ?_
    rintro _ h1' E1' ⟨fn', caps', rfl, ak'⟩
    refine ⟨ext_wlm E1' _, ?_⟩
    refine dw_eff (i := 7) rfl (by decide +kernel) ?_
    refine op_buildSlice (zc := [_]) (vs := [(0, _), (1, _)]) (cs := [_, _]) rfl rfl rfl rfl rfl rfl rfl fun b18 hb18 => ?_
    refine ⟨ext_new hb18 _, ?_⟩
    refine dw_norm [_, _] rfl ?_
    refine dw_pub 1 rfl ?_
    intro h2 E2 p13
    refine dw_norm [_, _] rfl ?_
    refine dw_last (i := 8) rfl (by decide +kernel) (by decide +kernel) ?_
    refine op_fn (caps := []) (vs := [.agg #[.slice _ _ _, .slice _ _ _, .slice _ _ _, .slice _ _ _], .slice _ _ _]) rfl rfl rfl (known_no s A0 A1 A2 A3 c0 c1 c2 c3 h2 (R.ext (Ext.trans (Ext.trans E1 E1') E2)) Sm.h0 Sm.h1 Sm.h2 Sm.h3 [_, _] [_, _] _ _ (rowFn p13) rfl (by simp) (ask2 (ak.ext (Ext.trans E1' E2)) (ak'.ext E2)) he) ?_
    rintro _ h3 E3 rfl
    refine dw_pure (i := 9) rfl (by decide +kernel) (pv_move (v := .tuple #[.agg #[.slice _ _ _, .map _, .map _, .map _, .map _, .slice _ _ _, .map _, .map _, .map _, .map _], .int .i64 _]) rfl) ?_
    refine dw_pure (i := 10) rfl (by decide +kernel) (pv_of (v := .agg #[.slice _ _ _, .map _, .map _, .map _, .map _, .slice _ _ _, .map _, .map _, .map _, .map _]) rfl) ?_
    refine dw_pure (i := 11) rfl (by decide +kernel) (pv_of (v := .int .i64 _) rfl) ?_
    refine dw_eff (i := 12) rfl (by decide +kernel) ?_
    refine op_alloc (cs := [_, _, _, _, _, _, _, _, _, _]) rfl rfl fun b8 hb8 => ?_
    refine ⟨ext_new hb8 _, ?_⟩
    refine dw_norm [_, _, _] rfl ?_
    refine dw_last (i := 13) rfl (by decide +kernel) (by decide +kernel) ?_
    refine op_storeP 2 (v := .agg #[.slice _ _ _, .map _, .map _, .map _, .map _, .slice _ _ _, .map _, .map _, .map _, .map _]) (vs := [_, _, _, _, _, _, _, _, _, _]) (c' := [_, _, _, _, _, _, _, _, _, _]) rfl rfl rfl rfl rfl rfl rfl rfl rfl ?_
    refine dw_norm [_, _, _] rfl ?_
    refine dw_pure (i := 14) rfl (by decide +kernel) (pv_assign (v := .int .i64 _) rfl) ?_
    refine dw_end rfl ?_
    refine xp_seq ?_
    refine xp_seq ?_
    refine xp_region rfl ?_
    refine op_pure (pv_move (v := .int .i64 _) rfl) ?_
    refine op_pure (pv_of (v := .bool _) rfl) ?_
    refine xp_condT rfl (by simpa [failedE] using he) ?_
    refine xp_seq ?_
    refine xp_region rfl ?_
    refine op_pure (pv_move (v := .int .i64 _) rfl) ?_
    refine op_pure (pv_assign (v := .int .i64 _) rfl) ?_
    refine op_pure (pv_assign (v := .int .i64 _) rfl) ?_
    refine xp_ret ?_
    refine res_list (vs := [_, _]) Try.results7 ⟨resV_tmp rfl rfl, resV_tmp rfl rfl, trivial⟩ fun V => ?_
    exact ⟨(Ext.trans (Ext.trans (Ext.trans (Ext.trans E1 E1') E2) E3) (ext_wl V)), by rw [failedV, if_neg he]; rfl⟩
end Go.Proofs.Ytledjpdpkbifgaa
/- Walks: of what joints fail. Conditions: as each theorem states. -/
namespace Go.Proofs.Ytledjpdpkbifgaa
open Go Go.HL Go.Proofs Go.Wx
variable [Lvl]
set_option maxRecDepth 100000
end Go.Proofs.Ytledjpdpkbifgaa
/- Fates of both kinds; which joints fail first, in plain data. Conditions: none. -/
namespace Go.Wx
open Go Go.HL
variable [Lvl]
def joinF (x y : Fate) : Fate := ⟨x.a ||| y.a, x.b ||| y.b, x.c ||| y.c⟩
def allFates (s : Season) : List Fate := (fatesM s 1).flatMap fun x => (fatesM s 2).map (joinF x)
theorem mem_allFates {s : Season} {f : Fate} : f ∈ allFates s ↔ ∃ x ∈ fatesM s 1, ∃ y ∈ fatesM s 2, joinF x y = f := by
  unfold allFates
  simp only [List.mem_flatMap, List.mem_map]
theorem fateM_lt {s : Season} (h6 : s.heats.length ≤ 6) (n : Int) (x : Sky) (i : Nat) : fateM s n x i < 2 ^ 7 := maskM_lt fun y hy => by have := surv_week hy; omega
structure FateB (f : Fate) : Prop where
  a : f.a < 2 ^ 7
  b : f.b < 2 ^ 7
  c : f.c < 2 ^ 7
theorem fatesM_b {s : Season} (h6 : s.heats.length ≤ 6) {n : Int} {f : Fate} (h : f ∈ fatesM s n) : FateB f := by
  unfold fatesM fatesK at h
  obtain ⟨x, _, rfl⟩ := List.mem_map.1 h
  exact ⟨fateM_lt h6 _ _ _, fateM_lt h6 _ _ _, fateM_lt h6 _ _ _⟩
theorem FateB.join {x y : Fate} (hx : FateB x) (hy : FateB y) : FateB (joinF x y) := ⟨Nat.or_lt_two_pow hx.a hy.a, Nat.or_lt_two_pow hx.b hy.b, Nat.or_lt_two_pow hx.c hy.c⟩
theorem allFates_b {s : Season} (h6 : s.heats.length ≤ 6) {f : Fate} (h : f ∈ allFates s) : FateB f := by
  obtain ⟨x, hx, y, hy, rfl⟩ := mem_allFates.1 h
  exact (fatesM_b h6 hx).join (fatesM_b h6 hy)
theorem FateB.at {f : Fate} (h : FateB f) : ∀ i, f.at i < 2 ^ 7
  | 0 => h.a
  | 1 => h.b
  | _ + 2 => h.c
/-- The first fate, its first parts joined with the other's. -/
def jn (x y : Fate) (i k : Nat) : Nat := if k < i then x.at k ||| y.at k else x.at k
theorem jn_arr (x y : Fate) : ∀ i : Nat, i < 3 → #[Value.int .u64 (jn x y i 0 : Nat), .int .u64 (jn x y i 1 : Nat), .int .u64 (jn x y i 2 : Nat)][0 + (i : Int).toNat * 1]? = some (.int .u64 (x.at i : Nat))
  | 0, _ => rfl
  | 1, _ => rfl
  | 2, _ => rfl
  | i + 3, h => by omega
theorem fate_arr (y : Fate) : ∀ i : Nat, i < 3 → #[Value.int .u64 (y.a : Nat), .int .u64 (y.b : Nat), .int .u64 (y.c : Nat)][0 + (i : Int).toNat * 1]? = some (.int .u64 (y.at i : Nat))
  | 0, _ => rfl
  | 1, _ => rfl
  | 2, _ => rfl
  | i + 3, h => by omega
theorem jn_wr (x y : Fate) : ∀ i : Nat, i < 3 → wrL [Value.int .u64 (jn x y i 0 : Nat), .int .u64 (jn x y i 1 : Nat), .int .u64 (jn x y i 2 : Nat)] (0 + (i : Int).toNat * 1) [.int .u64 ((x.at i ||| y.at i : Nat) : Int)] = [Value.int .u64 (jn x y (i + 1) 0 : Nat), .int .u64 (jn x y (i + 1) 1 : Nat), .int .u64 (jn x y (i + 1) 2 : Nat)]
  | 0, _ => rfl
  | 1, _ => rfl
  | 2, _ => rfl
  | i + 3, h => by omega
theorem okK_ok {s : Season} {n : Int} {k : Nat} {x : Sky} (h : x ∈ okK s n k) : okM s n x = true := (List.mem_filter.1 h).2
theorem fateM_ne {s : Season} {n : Int} {x : Sky} (h : okM s n x = true) {i : Nat} (hi : i < s.joints.length) (hk : kindAt s i = n) : fateM s n x i ≠ 0 := by
  unfold okM at h
  have := List.all_eq_true.1 h i (by simpa using hi)
  simpa [hk] using this
theorem Fate.of_at (s : Season) (n : Int) (x : Sky) : ∀ i, i < 3 → (fateOf s n x).at i = fateM s n x i
  | 0, _ => rfl
  | 1, _ => rfl
  | 2, _ => rfl
  | i + 3, h => by omega
theorem joinF_at (x y : Fate) : ∀ i, (joinF x y).at i = x.at i ||| y.at i
  | 0 => rfl
  | 1 => rfl
  | _ + 2 => rfl
theorem or_ne_left {a b : Nat} (h : a ≠ 0) : a ||| b ≠ 0 := by
  intro e
  have : a ≤ a ||| b := Nat.left_le_or
  omega
theorem or_ne_right {a b : Nat} (h : b ≠ 0) : a ||| b ≠ 0 := by
  intro e
  have : b ≤ a ||| b := Nat.right_le_or
  omega
theorem allFates_ne {s : Season} (SV : SeasonV s) {f : Fate} (h : f ∈ allFates s) {i : Nat} (hi : i < s.joints.length) : f.at i ≠ 0 := by
  obtain ⟨x, hx, y, hy, rfl⟩ := mem_allFates.1 h
  have h3 : i < 3 := by have := SV.b.j3; omega
  obtain ⟨u, hu, rfl⟩ := List.mem_map.1 hx
  obtain ⟨v, hv, rfl⟩ := List.mem_map.1 hy
  rw [joinF_at, Fate.of_at _ _ _ _ h3, Fate.of_at _ _ _ _ h3]
  have hk : kindAt s i = s.joints[i].kind := by simp [kindAt, hi]
  rcases SV.kinds _ (List.getElem_mem hi) with e | e
  · exact or_ne_left (fateM_ne (okK_ok hu) hi (hk.trans e))
  · exact or_ne_right (fateM_ne (okK_ok hv) hi (hk.trans e))
theorem listM_ne {m : Nat} (h0 : m ≠ 0) (h7 : m < 2 ^ 7) : listM m ≠ [] := by
  intro e
  apply h0
  apply Nat.eq_of_testBit_eq
  intro i
  rw [Nat.zero_testBit]
  rcases Nat.lt_or_ge i 7 with h | h
  · cases hb : m.testBit i with
    | false => rfl
    | true =>
      have : (i : Int) ∈ listM m := by
        unfold listM listN
        exact List.mem_map.2 ⟨i, List.mem_filter.2 ⟨by simpa using h, hb⟩, rfl⟩
      rw [e] at this
      cases this
  · exact Nat.testBit_lt_two_pow (Nat.lt_of_lt_of_le h7 (Nat.pow_le_pow_right (by omega) h))
/-- The least week of another joint at the least, and at the greatest. -/
def soonP (s : Season) (f : Fate) (j : Nat) : Nat → Int
  | 0 => s.heats.length
  | i + 1 => if i = j then soonP s f j i else min (soonP s f j i) ((listM (f.at i)).headD 0)
def latP (s : Season) (f : Fate) (j : Nat) : Nat → Int
  | 0 => s.heats.length
  | i + 1 => if i = j then latP s f j i else min (latP s f j i) ((listM (f.at i)).getLastD 0)
def isW (s : Season) (f : Fate) (j : Nat) (w : Int) : Bool := decide (w ≤ (s.heats.length : Int) - 1) && decide (w ≤ latP s f j s.joints.length)
def noW (s : Season) (f : Fate) (j : Nat) (w : Int) : Bool := decide (w > (s.heats.length : Int) - 1) || decide (w > soonP s f j s.joints.length)
def isF (s : Season) (j : Nat) (f : Fate) : Bool := (listM (f.at j)).any (isW s f j)
def noF (s : Season) (j : Nat) (f : Fate) : Bool := (listM (f.at j)).any (noW s f j)
end Go.Wx
namespace Go.HL
open Go Go.Wx
variable [Lvl]
theorem op_rangeF (i : Nat) {P : Program} {n : Nat} {ops : Array Oper} {d : Option Tmp} {ty : TypeId} {ps : String} {af : Array Edge} {os : List Oper} {K : Sl → Pv → AH → Prop} {E : Value → Sl → Pv → AH → Prop} {S : Sl} {L : Pv} {h : AH} {t a b : TypeId} {x : Operand} {m : Nat} {l : List (Value × Value)} (hi : L[i]? = some none) (ht : pev P (underlying t) = some (.map a b)) (hx : ev n S x = .map (some m)) (hm : Valid h L → wl h L m = some (mapO l))
    (k : ∀ c, wl h L c = none → wpL P n ops os K E (put S d (.pointer (some ⟨c, 0, none⟩))) (L.set i (some (c, iterO m l.length []))) h) : wpL P n ops (⟨d, .range t x, ty, ps, af, none⟩ :: os) K E S L h := by
  refine op_of fun V => ?_
  unfold opW
  simp only [execOp, hx]
  refine dem_bind ?_
  unfold Instr.range
  refine dem_pev_bind ht ?_
  simp only
  refine dem_bind ?_
  refine ⟨_, hm V, trivial, ?_⟩
  refine dem_bind ?_
  refine dem_bind ?_
  intro c hc
  obtain ⟨e, V'⟩ := wl_fill V hi hc (iterO m l.length [])
  exact ⟨_, h, e, V', k c hc⟩
/-- The same where the order is open: what has been handed out so far is a list. -/
def Yields2 {α : Type} (P : Program) (y : Value) (all : List α) (enc : α → Value) (I : List α → AH → Pv → Prop) : Prop :=
  ∀ (done : List α) (x : α) (h : AH) (M : Pv), x ∈ all → I done h M → FnM P y [enc x] h M (fun v h' M' => v = .bool true ∧ I (done ++ [x]) h' M')
def Iter2 {α : Type} (P : Program) (f : Value) (h0 : AH) (all : List α) (enc : α → Value) : Prop :=
  ∀ (fn : Fn) (fs cs : Array Value) (I : List α → AH → Pv → Prop), (∀ k h h' M, Ext h h' → I k h M → I k h' M) → Yields2 P (.func fn fs cs) all enc I → ∀ h M, Ext h0 h → I [] h M → FnM P f [.func fn fs cs] h M (fun _ h' M' => ∃ done, (∀ x, x ∈ done ↔ x ∈ all) ∧ I done h' M')
theorem Iter2.ext {α : Type} {P : Program} {f : Value} {h h' : AH} {all : List α} {enc : α → Value} (i : Iter2 P f h all enc) (E : Ext h h') : Iter2 P f h' all enc :=
  fun fn fs cs I hI Y h1 M E1 => i fn fs cs I hI Y h1 M (E.trans E1)
end Go.HL
/- Walks: fates of both kinds, handed out. Conditions: as each theorem states. -/
namespace Go.Proofs.Ytledjpdpkbifgaa
open Go Go.HL Go.Proofs Go.Wx
variable [Lvl]
set_option maxRecDepth 100000
set_option maxHeartbeats 1000000 in
theorem fates1_ok (s : Season) (SV : SeasonV s) (A : Option Addr) (c mf : Nat) (fm : Nat → Nat) (fl : Nat → List Fl) (A' : Option Addr) (c' mf' : Nat) (fm' : Nat → Nat) (fl' : Nat → List Fl) (b1 : Nat) (h0 : AH) (X : HalfX h0 s 1 A mf fm fl) (X' : HalfX h0 s 2 A' mf' fm' fl')
    (e1 : h0 b1 = some (.cells (halfC s 1 A c mf fm ++ halfC s 2 A' c' mf' fm').toArray 71 (0, 0))) :
    Iter2 Try.prog (.func (.func 41) #[] #[.pointer (some ⟨b1, 0, none⟩)]) h0 (allFates s) fateV := by
  intro fn fs cs I hI Y h M E0 hi
  have hw6 := SV.b.w6
  refine fnM_body (caps := [.pointer (some ⟨b1, 0, none⟩)]) rfl rfl Try.func41 rfl Try.ntmps41 rfl ?_
  refine goes_front ?_
  refine goes_front ?_
  refine goes_front ?_
  refine goes_front ?_
  refine goes_front ?_
  refine xp_seq ?_
  refine xp_region rfl ?_
  refine op_pure (pv_fieldAddr rfl rfl rfl rfl _ rfl) ?_
  refine op_pure (pv_fieldAddr rfl rfl rfl rfl _ rfl) ?_
  refine op_load (v := .map _) rfl rfl (by simp only [cellA, E0 _ _ e1]; rfl) ?_
  refine op_rangeF 0 rfl rfl rfl (fun V => by exact (Ext.trans E0 (ext_wl V)) _ _ X.ft) fun it10 hit10 => ?_
  refine wp_norm (_ :: _ :: _ :: _ :: _ :: _) rfl ?_
  refine xp_block ?_
  refine xp_loopN [3, 4, 5, 6, 11, 12, 13, 14, 15, 16, 17, 18, 19, 20, 21, 22, 23, 24, 25, 26, 27, 28, 29, 30, 31, 32, 33, 34, 35, 36, 37, 38, 39] (α := List Nat × List Fate × Pv) (fun ⟨sn, done, M1⟩ => []) (fun ⟨sn, done, M1⟩ => some (it10, iterO mf (encs fateV (insAll (fatesM s 1))).length sn) :: none :: none :: none :: none :: M1) (fun ⟨sn, done, M1⟩ h_sn => SeenJ (insAll (fatesM s 1)).length sn ∧ I done h_sn M1 ∧ ∀ f, f ∈ done ↔ Met (insAll (fatesM s 1)) sn (fun x => ∃ y ∈ fatesM s 2, joinF x y = f)) (fun ⟨sn, done, M1⟩ => (insAll (fatesM s 1)).length - sn.length) (([], [], M)) trivial (rfl) (⟨SeenJ.nil _, hi, fun f => by simp [Met.nil]⟩) ?_
  rintro ⟨sn, done, M1⟩ T1 h_sn E_sn J_sn
  refine goes_norm (_ :: _ :: _ :: _ :: _ :: _) rfl ?_
  obtain ⟨S1, S2, S3⟩ := J_sn
  have hm1 := (Ext.trans E0 E_sn) _ _ X.ft
  refine xp_seq ?_
  refine xp_region rfl ?_
  refine op_next 0 rfl rfl (fun V => ext_wl V _ _ hm1) ?_ ?_
  · intro jx p hp hjn
    obtain ⟨x, v, hx, rfl⟩ := encs_get hp
    have hxm : x ∈ fatesM s 1 := (insAll_get x).1 ⟨jx, v, hx⟩
    obtain ⟨T1, T2, T3⟩ := S1.snoc (List.getElem?_eq_some_iff.1 hx).1 hjn
    refine wp_norm (_ :: _ :: _ :: _ :: _ :: _) rfl ?_
    refine op_pure (pv_of (v := .bool _) rfl) ?_
    refine xp_seq ?_
    refine xp_condT rfl (rfl) ?_
    refine xp_skip ?_
    refine xp_block ?_
    refine xp_seq ?_
    refine xp_region rfl ?_
    refine op_entry 0 rfl rfl (fun V => ext_wl V _ _ hm1) hp ?_
    refine op_pure (pv_of (v := .agg #[.int .u64 _, .int .u64 _, .int .u64 _]) rfl) ?_
    refine op_allocF 1 (cs := [_, _, _]) rfl rfl rfl fun b3 hb3 => ?_
    refine wp_norm (_ :: _ :: _ :: _ :: _ :: _) rfl ?_
    refine op_storeP 1 (v := .agg #[.int .u64 _, .int .u64 _, .int .u64 _]) (vs := [_, _, _]) (c' := [_, _, _]) rfl rfl rfl rfl rfl rfl rfl rfl rfl ?_
    refine wp_norm (_ :: _ :: _ :: _ :: _ :: _) rfl ?_
    refine xp_seq ?_
    refine xp_region rfl ?_
    refine op_pure (pv_fieldAddr rfl rfl rfl rfl _ rfl) ?_
    refine op_pure (pv_fieldAddr rfl rfl rfl rfl _ rfl) ?_
    refine op_load (v := .map _) rfl rfl (by simp only [cellA, (Ext.trans E0 E_sn) _ _ e1]; rfl) ?_
    refine op_rangeF 2 rfl rfl rfl (fun V => by exact (Ext.trans (Ext.trans E0 E_sn) (ext_wl V)) _ _ X'.ft) fun it18 hit18 => ?_
    refine wp_norm (_ :: _ :: _ :: _ :: _ :: _) rfl ?_
    refine xp_block ?_
    refine xp_loopN [4, 5, 6, 19, 20, 21, 22, 23, 24, 25, 26, 27, 28, 29, 30, 31, 32, 33, 34, 35, 36, 37, 38, 39] (α := List Nat × List Fate × Pv) (fun ⟨tn, dn, M2⟩ => []) (fun ⟨tn, dn, M2⟩ => _ :: _ :: some (it18, iterO mf' (encs fateV (insAll (fatesM s 2))).length tn) :: none :: none :: M2) (fun ⟨tn, dn, M2⟩ h_tn => SeenJ (insAll (fatesM s 2)).length tn ∧ I dn h_tn M2 ∧ ∀ f, f ∈ dn ↔ f ∈ done ∨ Met (insAll (fatesM s 2)) tn (fun y => joinF x y = f)) (fun ⟨tn, dn, M2⟩ => (insAll (fatesM s 2)).length - tn.length) (([], done, M1)) trivial (rfl) (⟨SeenJ.nil _, hI _ _ _ _ (Ext.refl _) S2, fun f => by simp [Met.nil]⟩) ?_
    rintro ⟨tn, dn, M2⟩ T2 h_tn E_tn J_tn
    refine goes_norm (_ :: _ :: _ :: _ :: _ :: _) rfl ?_
    obtain ⟨U1, U2, U3⟩ := J_tn
    have hm2 := (Ext.trans E0 (Ext.trans E_sn E_tn)) _ _ X'.ft
    refine xp_seq ?_
    refine xp_region rfl ?_
    refine op_next 2 rfl rfl (fun V => ext_wl V _ _ hm2) ?_ ?_
    · intro jy p hp2 hjn2
      obtain ⟨y, v, hy, rfl⟩ := encs_get hp2
      have hym : y ∈ fatesM s 2 := (insAll_get y).1 ⟨jy, v, hy⟩
      obtain ⟨W1, W2, W3⟩ := U1.snoc (List.getElem?_eq_some_iff.1 hy).1 hjn2
      have bx := fatesM_b hw6 hxm
      have bY := fatesM_b hw6 hym
      refine wp_norm (_ :: _ :: _ :: _ :: _ :: _) rfl ?_
      refine op_pure (pv_of (v := .bool _) rfl) ?_
      refine xp_seq ?_
      refine xp_condT rfl (rfl) ?_
      refine xp_skip ?_
      refine xp_block ?_
      refine xp_seq ?_
      refine xp_region rfl ?_
      refine op_entry 2 rfl rfl (fun V => ext_wl V _ _ hm2) hp2 ?_
      refine op_pure (pv_of (v := .agg #[.int .u64 _, .int .u64 _, .int .u64 _]) rfl) ?_
      refine op_allocF 3 (cs := [_, _, _]) rfl rfl rfl fun b4 hb4 => ?_
      refine wp_norm (_ :: _ :: _ :: _ :: _ :: _) rfl ?_
      refine op_storeP 3 (v := .agg #[.int .u64 _, .int .u64 _, .int .u64 _]) (vs := [_, _, _]) (c' := [_, _, _]) rfl rfl rfl rfl rfl rfl rfl rfl rfl ?_
      refine wp_norm (_ :: _ :: _ :: _ :: _ :: _) rfl ?_
      refine xp_seq ?_
      refine xp_region rfl ?_
      refine op_loadPA 1 (vs := [.int .u64 _, .int .u64 _, .int .u64 _]) rfl rfl rfl rfl rfl ?_
      refine op_allocF 4 (cs := [_, _, _]) rfl rfl rfl fun b5 hb5 => ?_
      refine wp_norm (_ :: _ :: _ :: _ :: _ :: _) rfl ?_
      refine op_storeP 4 (v := .agg #[.int .u64 _, .int .u64 _, .int .u64 _]) (vs := [_, _, _]) (c' := [_, _, _]) rfl rfl rfl rfl rfl rfl rfl rfl rfl ?_
      refine wp_norm (_ :: _ :: _ :: _ :: _ :: _) rfl ?_
      refine xp_seq ?_
      refine xp_seq ?_
      refine xp_region rfl ?_
      refine op_pure (pv_move (v := .int .i64 _) rfl) ?_
      refine xp_block ?_
      refine xp_loopN [6, 24, 25, 26, 27, 28, 29, 30, 31, 32, 33, 34, 35] (α := Nat) (fun i => [(24, .int .i64 i)]) (fun i => _ :: _ :: _ :: _ :: some (b5, .cells #[.int .u64 (jn x y i 0 : Nat), .int .u64 (jn x y i 1 : Nat), .int .u64 (jn x y i 2 : Nat)] 91 (0, 0)) :: _) (fun i h_i => i ≤ 3) (fun i => 3 - i) (0) ⟨rfl, trivial⟩ (rfl) (by omega) ?_
      rintro i T3 h_i E_i J_i
      refine goes_norm (_ :: _ :: _ :: _ :: _ :: _) rfl ?_
      refine xp_seq ?_
      refine xp_region rfl ?_
      refine op_pure (pv_of (v := .bool _) rfl) ?_
      refine xp_seq ?_
      refine xp_cond rfl (fun hi3 => ?_) (fun hi3 => ?_)
      · skip
        have h3 : i < 3 := ltI (n := 3) hi3
        have bxi := bx.at i
        have byi := bY.at i
        refine xp_skip ?_
        refine xp_seq ?_
        refine xp_block ?_
        refine xp_seq ?_
        refine xp_region rfl ?_
        refine op_pure (pv_move (v := .int .i64 _) rfl) ?_
        refine op_pure (pv_assign (v := .int .i64 _) rfl) ?_
        refine xp_dw [] rfl rfl rfl ?_
        refine dw_pure (i := 0) rfl (by decide +kernel) (pv_move (v := .int .i64 _) rfl) ?_
        refine dw_pure (i := 1) rfl (by decide +kernel) (pv_indexA rfl rfl rfl rfl (by omega) (by omega)) ?_
        refine dw_load (i := 2) rfl (by decide +kernel) ?_
        refine op_loadP 4 (v := .int .u64 (x.at i : Nat)) rfl rfl rfl (jn_arr x y i h3) ?_
        refine dw_pure (i := 3) rfl (by decide +kernel) (pv_move (v := .int .i64 _) rfl) ?_
        refine dw_pure (i := 4) rfl (by decide +kernel) (pv_indexA rfl rfl rfl rfl (by omega) (by omega)) ?_
        refine dw_load (i := 5) rfl (by decide +kernel) ?_
        refine op_loadP 3 (v := .int .u64 (y.at i : Nat)) rfl rfl rfl (fate_arr y i h3) ?_
        refine dw_pure (i := 6) rfl (by decide +kernel) (pv_val (u64_or (x.at i) (y.at i) (by omega) (by omega)) rfl) ?_
        refine dw_pure (i := 7) rfl (by decide +kernel) (pv_indexA rfl rfl rfl rfl (by omega) (by omega)) ?_
        refine dw_last (i := 8) rfl (by decide +kernel) (by decide +kernel) ?_
        refine op_storeP 4 (v := .int .u64 _) (vs := [_]) (b := b5) (off := 0 + (i : Int).toNat * 1) rfl rfl rfl rfl rfl rfl (Nat.ble_eq_true_of_le (show 0 + (i : Int).toNat * 1 + 1 ≤ 3 by omega)) rfl (jn_wr x y i h3) ?_
        refine dw_norm (_ :: _ :: _ :: _ :: _ :: _) rfl ?_
        refine dw_end rfl ?_
        refine xp_region rfl ?_
        refine op_pure (pv_arith rfl (by omega)) ?_
        refine op_pure (pv_move (v := .int .i64 _) rfl) ?_
        refine ⟨i + 1, ⟨rfl, trivial⟩, rfl, rfl, E_i, by first | trivial | omega | (refine ⟨?_, ?_⟩ <;> omega), by first | omega | (dsimp only; omega), ?_⟩
        repeat (first | exact off_base _ _ _ | refine off_upd (by decide) ?_ | refine off_updL rfl ?_ | refine off_mix rfl ?_)
      · skip
        have h3 : i = 3 := by have := geI (n := 3) hi3; omega
        subst h3
        refine xp_exit ?_
        refine xp_seq ?_
        refine xp_region rfl ?_
        refine op_pure (pv_move (v := _) rfl) ?_
        refine op_loadPA 4 (vs := [.int .u64 _, .int .u64 _, .int .u64 _]) rfl rfl rfl rfl rfl ?_
        refine op_fnM [_, _, _, _, _] _ (vs := _) rfl rfl rfl (Y dn (joinF x y) h_i M2 (mem_allFates.2 ⟨x, hxm, y, hym, rfl⟩) (hI _ _ _ _ E_i U2)) ?_
        rintro _ h6 M6 E6 ⟨rfl, i6⟩
        refine op_pure (pv_of (v := .bool _) rfl) ?_
        refine xp_condF rfl (by decide) ?_
        refine goes_pub 3 rfl ?_
        intro hq4 Eq4 _
        refine goes_pub 4 rfl ?_
        intro hq5 Eq5 _
        refine goes_norm (_ :: _ :: _ :: _ :: _ :: _) rfl ?_
        refine xp_skip ?_
        refine ⟨(tn ++ [jy], dn ++ [joinF x y], M6), trivial, rfl, rfl, (Ext.trans (Ext.trans (Ext.trans (Ext.trans E_tn E_i) E6) Eq4) Eq5), ⟨W1, hI _ _ _ _ (Ext.trans Eq4 Eq5) i6, fun f => by rw [List.mem_append, U3 f, Met.snoc hy, or_assoc]; simp [eq_comm]⟩, by first | omega | (dsimp only; omega), ?_⟩
        repeat (first | exact off_base _ _ _ | refine off_upd (by decide) ?_ | refine off_updL rfl ?_ | refine off_mix rfl ?_)
    · intro hall2
      refine op_pure (pv_of (v := .bool _) rfl) ?_
      refine xp_seq ?_
      refine xp_condF rfl (rfl) ?_
      refine goes_pub 1 rfl ?_
      intro hq6 Eq6 _
      refine goes_pub 2 rfl ?_
      intro hq7 Eq7 _
      refine goes_norm (_ :: _ :: _ :: _ :: _ :: _) rfl ?_
      refine xp_exit ?_
      refine ⟨(sn ++ [jx], dn, M2), trivial, rfl, rfl, (Ext.trans (Ext.trans (Ext.trans E_sn E_tn) Eq6) Eq7), ⟨T1, hI _ _ _ _ (Ext.trans Eq6 Eq7) U2, fun f => by rw [U3 f, S3 f, Met.snoc hx, Met.all (fun k hk => hall2 k (by rw [encs_len]; exact hk))]⟩, by first | omega | (dsimp only; omega), ?_⟩
      repeat (first | exact off_base _ _ _ | refine off_upd (by decide) ?_ | refine off_updL rfl ?_ | refine off_mix rfl ?_)
  · intro hall
    refine op_pure (pv_of (v := .bool _) rfl) ?_
    refine xp_seq ?_
    refine xp_condF rfl (rfl) ?_
    refine xp_exit ?_
    refine res_list (vs := []) Try.results41 trivial fun V => ?_
    obtain ⟨h9, E9, e9, V9⟩ := wl_shed [_, _, _, _, _] _ V
    exact ⟨h9, _, e9, V9, Ext.trans E_sn E9, done, fun f => by rw [S3 f, Met.all (fun k hk => hall k (by rw [encs_len]; exact hk)), mem_allFates], hI _ _ _ _ E9 S2⟩
theorem fates_ok (s : Season) (SV : SeasonV s) (A : Option Addr) (c mf : Nat) (fm : Nat → Nat) (fl : Nat → List Fl) (A' : Option Addr) (c' mf' : Nat) (fm' : Nat → Nat) (fl' : Nat → List Fl) (h : AH) (X : HalfX h s 1 A mf fm fl) (X' : HalfX h s 2 A' mf' fm' fl') :
    FnT Try.prog 27 #[.agg (halfC s 1 A c mf fm ++ halfC s 2 A' c' mf' fm').toArray] h (fun v h' => Iter2 Try.prog v h' (allFates s) fateV) := by
  refine call_body Try.func27 rfl Try.ntmps27 rfl ?_
  refine xp_seq ?_
  refine xp_region rfl ?_
  refine op_box (v := .agg #[.slice _ _ _, .map _, .map _, .map _, .map _, .slice _ _ _, .map _, .map _, .map _, .map _]) (cs := [_, _, _, _, _, _, _, _, _, _]) rfl rfl fun b1 hb1 => ?_
  refine wp_norm [_] rfl ?_
  refine op_pure (pv_assign (v := _) rfl) ?_
  refine xp_seq ?_
  refine xp_region rfl ?_
  refine op_pure (pv_makeFunc (vs := []) (ws := [_]) rfl rfl) ?_
  refine op_pure (pv_assign (v := _) rfl) ?_
  refine xp_ret ?_
  refine res_list (vs := [_]) Try.results27 ⟨resV_tmp rfl rfl, trivial⟩ fun V => ?_
  exact ⟨(ext_wl V), fates1_ok s SV A c mf fm fl A' c' mf' fm' fl' b1 _ (X.ext (ext_wl V)) (X'.ext (ext_wl V)) (wl_get V (i := 0) rfl)⟩
end Go.Proofs.Ytledjpdpkbifgaa
/- Walks: which joints fail first. Conditions: as each theorem states. -/
namespace Go.Proofs.Ytledjpdpkbifgaa
open Go Go.HL Go.Proofs Go.Wx
variable [Lvl]
set_option maxRecDepth 100000
end Go.Proofs.Ytledjpdpkbifgaa
/- Plain: what stays unseen; the fewest weeks to look. Conditions: as each theorem states. -/
namespace Go.Wx
open Go Go.HL
variable [Lvl]
theorem take_snoc {α : Type} {l : List α} {k : Nat} (h : k < l.length) : l.take (k + 1) = l.take k ++ [l[k]] := List.take_succ_eq_append_getElem h
end Go.Wx
/- Walks: what can fail; what stays unseen. Conditions: as each theorem states. -/
namespace Go.Proofs.Ytledjpdpkbifgaa
open Go Go.HL Go.Proofs Go.Wx
variable [Lvl]
set_option maxRecDepth 100000
end Go.Proofs.Ytledjpdpkbifgaa
/- The own logic, part AA: private blocks lent from the midst. Conditions: none. -/
namespace Go.HL
open Go
variable [Lvl]
theorem lookup_mem : ∀ {l : P0}, (l.map (·.1)).Nodup → ∀ {b : Nat} {o : Obj}, l.lookup b = some o ↔ (b, o) ∈ l
  | [], _, b, o => by simp
  | (c, q) :: l, nd, b, o => by
    rw [List.map_cons, List.nodup_cons] at nd
    rw [List.lookup_cons]
    by_cases hb : b = c
    · subst hb
      simp only [beq_self_eq_true, if_true, Option.some.injEq, List.mem_cons, Prod.mk.injEq, true_and]
      constructor
      · rintro rfl; exact .inl rfl
      · rintro (h | h)
        · exact h.symm
        · exact absurd (List.mem_map.2 ⟨_, h, rfl⟩) nd.1
    · have : (b == c) = false := by simpa using hb
      simp only [this, Bool.false_eq_true, if_false, List.mem_cons, Prod.mk.injEq, hb, false_and, false_or]
      exact lookup_mem nd.2
theorem wl_perm {h : AH} {L L' : Pv} (p : (cl L).Perm (cl L')) (V : Valid h L) : wl h L = wl h L' ∧ Valid h L' := by
  have nd' : ((cl L').map (·.1)).Nodup := (p.map _).nodup_iff.1 V.nd
  refine ⟨?_, ⟨nd', fun q hq => V.fresh q (p.mem_iff.2 hq), V.fin⟩⟩
  have e : ∀ b, (cl L).lookup b = (cl L').lookup b := by
    intro b
    apply Option.ext
    intro o
    show (cl L).lookup b = some o ↔ (cl L').lookup b = some o
    rw [lookup_mem V.nd, lookup_mem nd', p.mem_iff]
  funext b
  unfold wl wl0
  rw [e b]
theorem mid_perm (pre M post : Pv) : (cl (pre ++ M ++ post)).Perm (cl (pre ++ post ++ M)) := by
  simp only [cl_append, List.append_assoc]
  exact List.Perm.append_left _ List.perm_append_comm
section
variable {P : Program} {n : Nat} {ops : Array Oper} {d : Option Tmp} {op : Op} {ty : TypeId} {ps : String} {af : Array Edge} {os : List Oper} {K : Sl → Pv → AH → Prop} {E : Value → Sl → Pv → AH → Prop} {S : Sl} {L : Pv} {h : AH}
/-- A call to which private blocks from the midst are lent. -/
theorem op_fnMM (pre M post : Pv) {x : Operand} {xs : List Operand} {ats : Array TypeId} {y : Value} {vs : List Value} {R : Value → AH → Pv → Prop} (hf : ev n S x = y) (hx : xs.map (ev n S) = vs) (hL : L = pre ++ M ++ post) (c : FnM P y vs h M R)
    (k : ∀ v h' M', Ext h h' → R v h' M' → wpL P n ops os K E (put S d v) (pre ++ M' ++ post) h') : wpL P n ops (⟨d, .call ⟨.value x, xs.toArray, ats⟩, ty, ps, af, none⟩ :: os) K E S L h := by
  subst hL
  refine op_of fun V => ?_
  obtain ⟨e, V'⟩ := wl_perm (mid_perm pre M post) V
  have w : wpL P n ops [⟨d, .call ⟨.value x, xs.toArray, ats⟩, ty, ps, af, none⟩] (fun S' L' h' => ∃ M', L' = pre ++ post ++ M' ∧ wpL P n ops os K E S' (pre ++ M' ++ post) h') (fun _ _ _ _ => False) S (pre ++ post ++ M) h :=
    op_fnM (pre ++ post) M hf hx rfl c fun v h' M' E' r => ⟨M', rfl, k v h' M' E' r⟩
  have w' := w V'
  rw [e]
  refine opW_mono ?_ ?_ w'
  · rintro v H ⟨L', h', rfl, V1, M', rfl, w2⟩
    obtain ⟨e1, V2⟩ := wl_perm (mid_perm pre M' post).symm V1
    exact ⟨_, h', e1, V2, w2⟩
  · rintro v H ⟨L', h', _, _, y⟩; exact y.elim
end
theorem rm_app : ∀ (m : List Bool) (L : Pv) (q : Option (Nat × Obj)), rmM m (L ++ [q]) = rmM m L ++ [q] ∨ rmM m (L ++ [q]) = rmM m L ++ [none]
  | [], L, q => by left; simp [rmM]
  | true :: m, [], q => by right; cases m with | nil => rfl | cons b m => cases b <;> rfl
  | false :: m, [], q => by left; cases m with | nil => rfl | cons b m => cases b <;> rfl
  | true :: m, p :: L, q => by rcases rm_app m L q with h | h <;> simp [rmM, h]
  | false :: m, p :: L, q => by rcases rm_app m L q with h | h <;> simp [rmM, h]
theorem ext_newM {m : List Bool} {h : AH} {L : Pv} {b : Nat} (hb : wl h L b = none) (o : Obj) : Ext (wl h (rmM m L)) (wl h (rmM m (L ++ [some (b, o)]))) := by
  have h1 := wl0_none hb
  have h2 : wl h (rmM m L) b = none := by
    unfold wl wl0
    rw [(lookup_none_iff _ _).2 fun p hp => h1.2 p ((rm_sub m L).subset hp)]
    exact h1.1
  rcases rm_app m L (some (b, o)) with e | e
  · rw [e]; exact ext_new h2 o
  · rw [e]
    have : wl h (rmM m L ++ [none]) = wl h (rmM m L) := by unfold wl; rw [cl_append]; simp [cl]
    rw [this]; exact Ext.refl _
/-- What has grown and is not empty. -/
theorem AccR.some {e : TypeId} {m : Nat} {cs : List Value} {a : Acc} (r : AccR e m cs a) (hc : cs ≠ []) : ∃ b len cap junk, cs.length = len * m ∧ a = ⟨some (b, .cells (cs ++ junk).toArray e (0, 0)), some ⟨b, 0, none⟩, len, cap⟩ := by
  obtain ⟨p, A, n, c⟩ := a
  rcases r with ⟨_, h, _⟩ | ⟨b, len, cap, junk, hl, ev, hpp, _⟩
  · exact absurd h hc
  · injection ev with h1 h2 h3
    dsimp only at h1 h2 h3 hpp
    exact ⟨b, len, cap, junk, hl, by rw [h1, h2, h3, hpp]⟩
end Go.HL
/- Plain data of package rod: machines, hands, how far the rods turn. Conditions: none. -/
namespace Go.Rd

structure PinP where
  rod : Int
  lever : Int
  lag : Int
structure LinkP where
  frm : Int
  to : Int
  reg : Int
  lag : Int
structure MachP where
  rods : Int
  levers : Int
  regs : Int
  travel : Int
  opn : Int
  buttons : List Int
  pins : List PinP
  links : List LinkP
  weights : List Int
structure HandP where
  buttons : List Int
  on : List Int

/-- t' lies nowhere below t. -/
def Le (t t' : List Int) : Prop := t.length = t'.length ∧ ∀ j, t.getD j 0 ≤ t'.getD j 0
theorem Le.refl (t : List Int) : Le t t := ⟨rfl, fun _ => Int.le_refl _⟩
theorem Le.trans {a b c : List Int} (h : Le a b) (k : Le b c) : Le a c := ⟨h.1.trans k.1, fun j => Int.le_trans (h.2 j) (k.2 j)⟩
def active (on : List Int) (l : LinkP) : Bool := l.reg < 0 || on.contains l.reg
end Go.Rd
/- The own logic, part GA: a demonic run beside memory that is only read, with what it lists; leavers slip. Conditions: none. -/
namespace Go.HL
open Go Go.Conc Go.ConcN

/-- Memory that may only be read: every place of it looks frozen. -/
def zO : Obj → Obj
  | .cells c e f => .cells c e (0, max (c.size + 1) f.2)
  | o => o
def zf (R : AH) : AH := fun b => (R b).map zO
theorem zf_none {R : AH} {b : Nat} : zf R b = none ↔ R b = none := by simp [zf]
/-- Rows of cells alone. -/
def OnlyRows (R : AH) : Prop := ∀ b o, R b = some o → ∃ c e f, o = .cells c e f
/-- What the walk sees (Z) of memory that is lent (R): rows that look frozen; channels at which it may not look. -/
structure Lent (Z R : AH) : Prop where
  none : ∀ b, Z b = none ↔ R b = none
  some : ∀ b o, Z b = some o → (∃ c e f, R b = some (.cells c e f) ∧ o = .cells c e (0, max (c.size + 1) f.2)) ∨ (¬ Obj.noCells o ∧ (∀ c e f, o ≠ .cells c e f) ∧ ∃ k bf cl s r t, R b = some (.chan k bf cl s r t))
theorem lent_zf {R : AH} (hR : OnlyRows R) : Lent (zf R) R := by
  refine ⟨fun b => zf_none, fun b o h => ?_⟩
  cases hr : R b with
  | none => simp [zf, hr] at h
  | some o' =>
    obtain ⟨c, e, f, rfl⟩ := hR _ _ hr
    simp only [zf, hr, Option.map_some, zO, Option.some.injEq] at h
    exact .inl ⟨c, e, f, rfl, h.symm⟩
/-- What a step may list: own memory; reads of the memory lent. -/
def EvOK (X R : AH) (e : Event) : Prop :=
  (∃ a, e.loc = .cell a ∧ (X a.block ≠ none ∨ (R a.block ≠ none ∧ e.write = false))) ∨ (∃ r, e.loc = .obj r ∧ X r ≠ none) ∨ (∃ m, e.loc = .mark m ∧ m.quiet = true)
theorem EvOK.mono {X X' R : AH} {e : Event} (h : EvOK X R e) (m : ∀ b, X b ≠ none → X' b ≠ none) : EvOK X' R e := by
  rcases h with ⟨a, h1, h2 | h2⟩ | ⟨r, h1, h2⟩ | h
  · exact .inl ⟨a, h1, .inl (m _ h2)⟩
  · exact .inl ⟨a, h1, .inr h2⟩
  · exact .inr (.inl ⟨r, h1, m _ h2⟩)
  · exact .inr (.inr h)

theorem hunR {X R : AH} {b : Nat} (h : X b = none) : hun X R b = R b := by simp [hun, h]
theorem cellA_z {X Z R : AH} (hR : Lent Z R) {a : Addr} {v : Value} (h : cellA (hun X Z) a = some v) : cellA (hun X R) a = some v := by
  unfold cellA at h ⊢
  cases hx : X a.block with
  | some o => rw [hun_left hx] at h ⊢; exact h
  | none =>
    rw [hunR hx] at h ⊢
    cases hz : Z a.block with
    | none => rw [hz] at h; cases h
    | some o =>
      rcases hR.some _ _ hz with ⟨c, e, f, hr, rfl⟩ | ⟨_, hn, _⟩
      · rw [hz] at h; rw [hr]; exact h
      · rw [hz] at h
        cases o <;> first | exact absurd rfl (hn _ _ _) | cases h
theorem cellA_some {H : AH} {a : Addr} {v : Value} (h : cellA H a = some v) : H a.block ≠ none := by
  intro e
  simp [cellA, e] at h
theorem z_own {X Z R : AH} {a : Addr} {o : Obj} {v : Value} (hR : Lent Z R) (h : hun X Z a.block = some o) (hc : cellA (hun X Z) a = some v) (hf : frozenO o a.off = false) : X a.block = some o := by
  cases hx : X a.block with
  | some o' => rw [hun_left hx] at h; exact h
  | none =>
    have e1 : hun X Z a.block = Z a.block := hunR hx
    rw [e1] at h
    rcases hR.some _ _ h with ⟨c, e, f, hr, rfl⟩ | ⟨_, hn, _⟩
    · simp only [cellA, e1, h] at hc
      split at hc
      · cases hc
      · have := (Array.getElem?_eq_some_iff.1 hc).1
        simp [frozenO] at hf
        omega
    · simp only [cellA, e1, h] at hc
      cases o <;> first | exact absurd rfl (hn _ _ _) | cases hc
theorem z_obj {X Z R : AH} {r : Nat} {o : Obj} (hR : Lent Z R) (h : hun X Z r = some o) (hn : Obj.noCells o) : X r = some o := by
  cases hx : X r with
  | some o' => rw [hun_left hx] at h; exact h
  | none =>
    rw [hunR hx] at h
    rcases hR.some _ _ h with ⟨c, e, f, hr, rfl⟩ | ⟨h1, _⟩
    · exact hn.elim
    · exact absurd hn h1
theorem shape_z {X Z R : AH} (hR : Lent Z R) {r : Nat} {o : Obj} (h : hun X Z r = some o) : ∃ o', hun X R r = some o' ∧ shapeO o' = shapeO o := by
  cases hx : X r with
  | some o' =>
    rw [hun_left hx] at h
    exact ⟨o', hun_left hx, by cases h; rfl⟩
  | none =>
    rw [hunR hx] at h ⊢
    rcases hR.some _ _ h with ⟨c, e, f, hr, rfl⟩ | ⟨_, hn, k, bf, cl, s, r, t, hr⟩
    · exact ⟨_, hr, rfl⟩
    · exact ⟨_, hr, by cases o <;> first | exact absurd rfl (hn _ _ _) | rfl⟩

/-- What a run hands on: its own memory X', beside R and F as they were. -/
structure RunZ (R F X : AH) (w : World) (X' : AH) (w' : World) : Prop where
  env : SameEnv w w'
  heap : absH w'.heap = hun (hun X' R) F
  disj : Disj X' R
  disjF : Disj (hun X' R) F
  size : w.heap.size ≤ w'.heap.size
  grow : ∀ b, X b ≠ none → X' b ≠ none
  new : ∀ b, X' b ≠ none → X b ≠ none ∨ w.heap.size ≤ b
theorem RunZ.trans {R F X X1 X2 : AH} {w w1 w2 : World} (h : RunZ R F X w X1 w1) (k : RunZ R F X1 w1 X2 w2) : RunZ R F X w X2 w2 :=
  ⟨h.env.trans k.env, k.heap, k.disj, k.disjF, Nat.le_trans h.size k.size, fun b hb => k.grow b (h.grow b hb), fun b hb => (k.new b hb).elim (h.new b) fun h1 => .inr (Nat.le_trans h.size h1)⟩
theorem absH_lt {w : World} {H : AH} (e : absH w.heap = H) {b : Nat} (h : H b ≠ none) : b < w.heap.size := by
  subst e
  rcases Nat.lt_or_ge b w.heap.size with h1 | h1
  · exact h1
  · exact absurd (by simp [absH, h1]) h
theorem hupd_ne_none {X : AH} {b c : Nat} {o : Obj} (h : X c ≠ none) : hupd X b o c ≠ none := by
  unfold hupd; split
  · simp
  · exact h

def AfterZ (P : Program) (Z R F X : AH) {α : Type} (s : Sem α) (w : World) (K : α → AH → Prop) (E : Value → AH → Prop) : Prop :=
  ∃ X' w', RunZ R F X w X' w' ∧ (∀ es, ∀ e ∈ (s.runT P w es).2, e ∈ es ∨ EvOK X' R e) ∧ ((∃ a, s.run P w = .ok a w' ∧ K a (hun X' (Z))) ∨ (∃ v, s.run P w = .halt (.panic v) w' ∧ E v (hun X' (Z))))

/-- One step on: the step changes the memory from X to X1 and lists es1. -/
theorem AfterZ.step {P : Program} {Z R F X X1 : AH} {α : Type} {s s1 : Sem α} {w w1 : World} {K : α → AH → Prop} {E : Value → AH → Prop} {l : List Event} (z : RunZ R F X w X1 w1) (a : AfterZ P Z R F X1 s1 w1 K E)
    (hr : s.run P w = s1.run P w1) (ht : ∀ es, (s.runT P w es).2 = (s1.runT P w1 (es ++ l.toArray)).2) (hl : ∀ e ∈ l, EvOK X1 R e) : AfterZ P Z R F X s w K E := by
  obtain ⟨X', w', z', he, ho⟩ := a
  refine ⟨X', w', z.trans z', fun es e hm => ?_, by rw [hr]; exact ho⟩
  rw [ht] at hm
  rcases he _ e hm with h1 | h1
  · rcases Array.mem_append.1 h1 with h2 | h2
    · exact .inl h2
    · exact .inr ((hl e (by simpa using h2)).mono z'.grow)
  · exact .inr h1
theorem RunZ.refl {R F X : AH} {w : World} (h : absH w.heap = hun (hun X R) F) (d : Disj X R) (dF : Disj (hun X R) F) : RunZ R F X w X w := ⟨.refl w, h, d, dF, Nat.le_refl _, fun _ h => h, fun _ h => .inl h⟩

theorem dem_runZ {P : Program} {Z R F : AH} (hR : Lent Z R) {α : Type} {s : Sem α} {K : α → AH → Prop} {E : Value → AH → Prop} :
    ∀ (X : AH) (w : World), absH w.heap = hun (hun X R) F → Disj X R → Disj (hun X R) F → dem P s (hun X (Z)) K E → AfterZ P Z R F X s w K E := by
  induction s with
  | pure a =>
    intro X w h d dF k
    exact ⟨X, w, .refl h d dF, fun es e he => .inl he, .inl ⟨a, rfl, k⟩⟩
  | load m a k ih =>
    intro X w h d dF ⟨v, h1, h2⟩
    have hc : w.cell? a = some v := by
      rw [cell_abs, h]
      exact cellA_hun (cellA_z hR h1)
    refine AfterZ.step (l := [⟨.cell a, false, m == .atomic⟩]) (.refl h d dF) (ih v X w h d dF h2) (by simp only [Sem.run, hc]) (fun es => by simp [-Sem.runT_eq, Sem.runT, hc]) ?_
    intro e he
    simp only [List.mem_singleton] at he
    subst he
    refine .inl ⟨a, rfl, ?_⟩
    have := cellA_some (cellA_z hR h1)
    cases hx : X a.block with
    | some o => exact .inl (by simp)
    | none => exact .inr ⟨by simpa [hun, hx] using this, rfl⟩
  | store m a v k ih =>
    intro X w h d dF ⟨h0, o, u, h1, h2, h3, h4⟩
    have hx := z_own hR h1 h2 h3
    have hc : w.cell? a = some u := by
      rw [cell_abs, h]
      exact cellA_hun (cellA_z hR h2)
    have ho : absH w.heap a.block = some o := by rw [h]; exact hun_left (hun_left hx)
    have hfz : w.frozen? a = false := by
      have h1' : w.heap[a.block]? = some o := ho
      simp only [World.frozen?, h1']
      cases o <;> first | rfl | exact h3
    have hrb : R a.block = none := d.right hx
    have z : RunZ R F X w (hupd X a.block (setO o a v)) (w.setCell a v) := by
      refine ⟨⟨rfl, rfl, rfl⟩, ?_, d.hupd hrb, ?_, ?_, fun b hb => hupd_ne_none hb, fun b hb => ?_⟩
      · rw [absH_setCell w a v o ho, h, ← hun_hupd, ← hun_hupd]
      · rw [hun_hupd]; exact dF.hupd (dF.right (hun_left hx))
      · simp [World.setCell]
      · by_cases hb2 : b = a.block
        · subst hb2; exact .inl (by simp [hx])
        · simp only [hupd, if_neg hb2] at hb; exact .inl hb
    rw [← hun_hupd] at h4
    refine AfterZ.step (l := [⟨.cell a, true, m == .atomic⟩]) z (ih (hupd X a.block (setO o a v)) (w.setCell a v) z.heap z.disj z.disjF h4) ?_ (fun es => ?_) ?_
    · cases v <;> first | exact h0.elim | simp [Sem.run, hc, hfz]
    · cases v <;> first | exact h0.elim | simp [-Sem.runT_eq, Sem.runT, hc, hfz]
    · intro e he
      simp only [List.mem_singleton] at he
      subst he
      exact .inl ⟨a, rfl, .inl (by simp [hupd])⟩
  | new o k ih =>
    intro X w h d dF h1
    have hf := absH_fresh w.heap
    rw [h] at hf
    obtain ⟨hf1, hF⟩ := hun_none hf
    obtain ⟨hX, hRn⟩ := hun_none hf1
    have z : RunZ R F X w (hupd X w.heap.size o) { w with heap := w.heap.push o } := by
      refine ⟨⟨rfl, rfl, rfl⟩, ?_, d.hupd hRn, ?_, by simp, fun b hb => hupd_ne_none hb, fun b hb => ?_⟩
      · rw [absH_push, h, ← hun_hupd, ← hun_hupd]
      · rw [hun_hupd]; exact dF.hupd hF
      · by_cases hb2 : b = w.heap.size
        · exact .inr (by omega)
        · simp only [hupd, if_neg hb2] at hb; exact .inl hb
    have h2 := h1 w.heap.size (by simp [hun, hX, (hR.none _).2 hRn])
    rw [← hun_hupd] at h2
    exact AfterZ.step (l := []) z (ih _ _ { w with heap := w.heap.push o } z.heap z.disj z.disjF h2) rfl (fun es => by simp [-Sem.runT_eq, Sem.runT]) (by simp)
  | shape r k ih =>
    intro X w h d dF ⟨o, h1, h2⟩
    obtain ⟨o', ho, hs⟩ := shape_z hR h1
    have e : w.shape? r = shapeO o := by
      rw [← hs]
      have h1' : w.heap[r]? = some o' := by
        show absH w.heap r = some o'
        rw [h]; exact hun_left ho
      simp only [World.shape?, h1']
      cases o' <;> rfl
    exact AfterZ.step (l := []) (.refl h d dF) (ih _ X w h d dF h2) (by simp only [Sem.run, e]) (fun es => by simp [-Sem.runT_eq, Sem.runT, e]) (by simp)
  | freeze a n k ih => intro X w _ _ _ h; exact h.elim
  | frozen a k ih =>
    intro X w h d dF ⟨o, h1, h2⟩
    have hfr : w.frozen? a = true → frozenO o a.off = true := by
      intro hw
      cases hx : X a.block with
      | some o' =>
        have hz : o = o' := by rw [hun_left hx] at h1; exact (Option.some.inj h1).symm
        subst hz
        have h1' : w.heap[a.block]? = some o := by
          show absH w.heap a.block = some o
          rw [h]; exact hun_left (hun_left hx)
        simp only [World.frozen?, h1'] at hw
        cases o <;> first | exact hw | cases hw
      | none =>
        have hz : Z a.block = some o := by rw [hunR hx] at h1; exact h1
        rcases hR.some _ _ hz with ⟨c, e, f, hr, rfl⟩ | ⟨_, _, k0, bf, cl0, s0, r0, t0, hr⟩
        · have h1' : w.heap[a.block]? = some (.cells c e f) := by
            show absH w.heap a.block = some _
            rw [h]; exact hun_left (by rw [hunR hx]; exact hr)
          simp only [World.frozen?, h1'] at hw
          simp only [frozenO, Bool.and_eq_true, decide_eq_true_eq] at hw ⊢
          exact ⟨Nat.zero_le _, Nat.lt_of_lt_of_le hw.2 (Nat.le_max_right _ _)⟩
        · have h1' : w.heap[a.block]? = some (.chan k0 bf cl0 s0 r0 t0) := by
            show absH w.heap a.block = some _
            rw [h]; exact hun_left (by rw [hunR hx]; exact hr)
          simp [World.frozen?, h1'] at hw
    exact AfterZ.step (l := []) (.refl h d dF) (ih _ X w h d dF (h2 (w.frozen? a) hfr)) rfl (fun es => by simp [-Sem.runT_eq, Sem.runT]) (by simp)
  | getObj r k ih =>
    intro X w h d dF ⟨o, h1, h2, h3⟩
    have hx := z_obj hR h1 h2
    have h1' : w.heap[r]? = some o := by
      show absH w.heap r = some o
      rw [h]; exact hun_left (hun_left hx)
    refine AfterZ.step (l := [⟨.obj r, false, o.isChan⟩]) (.refl h d dF) (ih o X w h d dF h3) ?_ (fun es => ?_) ?_
    · simp only [Sem.run, h1']
      cases o <;> first | exact h2.elim | rfl
    · simp only [Sem.runT, h1']
      cases o <;> first | exact h2.elim | simp
    · intro e he
      simp only [List.mem_singleton] at he
      subst he
      exact .inr (.inl ⟨r, rfl, by simp [hx]⟩)
  | setObj r o k ih =>
    intro X w h d dF ⟨o', h1, h2, h3⟩
    have hx := z_obj hR h1 h2
    have ho : absH w.heap r = some o' := by rw [h]; exact hun_left (hun_left hx)
    have h1' : w.heap[r]? = some o' := ho
    have z : RunZ R F X w (hupd X r o) { w with heap := w.heap.setIfInBounds r o } := by
      refine ⟨⟨rfl, rfl, rfl⟩, ?_, d.hupd (d.right hx), ?_, by simp, fun b hb => hupd_ne_none hb, fun b hb => ?_⟩
      · show absH (w.heap.setIfInBounds r o) = _
        rw [absH_set w.heap r o o' ho, h, ← hun_hupd, ← hun_hupd]
      · rw [hun_hupd]; exact dF.hupd (dF.right (hun_left hx))
      · by_cases hb2 : b = r
        · subst hb2; exact .inl (by simp [hx])
        · simp only [hupd, if_neg hb2] at hb; exact .inl hb
    rw [← hun_hupd] at h3
    refine AfterZ.step (l := [⟨.obj r, true, o.isChan⟩]) z (ih _ { w with heap := w.heap.setIfInBounds r o } z.heap z.disj z.disjF h3) ?_ (fun es => ?_) ?_
    · simp only [Sem.run, h1']
      cases o' <;> first | exact h2.elim | rfl
    · simp only [Sem.runT, h1']
      cases o' <;> first | exact h2.elim | simp
    · intro e he
      simp only [List.mem_singleton] at he
      subst he
      exact .inr (.inl ⟨r, rfl, by simp [hupd]⟩)
  | choose q k ih =>
    intro X w h d dF h1
    unfold dem at h1
    by_cases hq : q.forced = true
    · rw [if_pos hq] at h1
      exact AfterZ.step (l := []) (.refl h d dF) (ih 0 X w h d dF h1) (by simp [Sem.run, hq]) (fun es => by simp [-Sem.runT_eq, Sem.runT, hq]) (by simp)
    · rw [if_neg hq] at h1
      have z : RunZ R F X w X { w with drawn := w.drawn + 1 } := ⟨⟨rfl, rfl, rfl⟩, h, d, dF, Nat.le_refl _, fun _ h => h, fun _ h => .inl h⟩
      exact AfterZ.step (l := []) z (ih _ X { w with drawn := w.drawn + 1 } h d dF (h1 (w.tape w.drawn q))) (by simp [Sem.run, hq]) (fun es => by simp [-Sem.runT_eq, Sem.runT, hq]) (by simp)
  | sys c k ih => intro X w _ _ _ h; exact h.elim
  | program k ih =>
    intro X w h d dF h1
    exact AfterZ.step (l := []) (.refl h d dF) (ih P X w h d dF h1) rfl (fun es => by simp [-Sem.runT_eq, Sem.runT]) (by simp)
  | mark m k ih =>
    intro X w h d dF h1
    refine AfterZ.step (l := [⟨.mark m, false, true⟩]) (.refl h d dF) (ih X w h d dF h1.2) rfl (fun es => by simp [-Sem.runT_eq, Sem.runT]) ?_
    intro e he
    simp only [List.mem_singleton] at he
    subst he
    exact .inr (.inr ⟨m, rfl, h1.1⟩)
  | halt x =>
    intro X w h d dF k
    cases x <;> first | exact k.elim | exact ⟨X, w, .refl h d dF, fun es e he => .inl he, .inr ⟨_, rfl, k⟩⟩

end Go.HL
/- The own logic, part GB: who moves in a crowd; a walk carried out beside leavers; the run's end. Conditions: none. -/
namespace Go.HL
open Go Go.Conc Go.ConcN

/-- The machine surely comes to the goal. -/
def Must (P : Program) (Goal : Machine → Trace → Prop) (m : Machine) (t : Trace) : Prop := ∃ N m' t', runNT P N m t = (.next m', t') ∧ Goal m' t'
theorem runNT_seq {P : Program} : ∀ {N N' : Nat} {m m1 m2 : Machine} {t t1 t2 : Trace}, runNT P N m t = (.next m1, t1) → runNT P N' m1 t1 = (.next m2, t2) → runNT P (N + N') m t = (.next m2, t2)
  | 0, N', m, m1, m2, t, t1, t2, h, k => by
    simp only [runNT, Prod.mk.injEq, Stepped.next.injEq] at h
    obtain ⟨rfl, rfl⟩ := h
    rw [Nat.zero_add]; exact k
  | N + 1, N', m, m1, m2, t, t1, t2, h, k => by
    rw [show N + 1 + N' = (N + N') + 1 by omega]
    cases hs : stepT P m with
    | mk r ops =>
      cases r with
      | next m' =>
        simp only [runNT, hs] at h ⊢
        exact runNT_seq h k
      | _ => simp [runNT, hs] at h
theorem Must.done {P : Program} {Goal : Machine → Trace → Prop} {m : Machine} {t : Trace} (h : Goal m t) : Must P Goal m t := ⟨0, m, t, rfl, h⟩
theorem Must.step {P : Program} {Goal : Machine → Trace → Prop} {m m' : Machine} {t : Trace} {ops : Array MemOp} (hs : stepT P m = (.next m', ops)) (h : Must P Goal m' (t ++ ops)) : Must P Goal m t := by
  obtain ⟨N, m2, t2, e, g⟩ := h
  exact ⟨N + 1, m2, t2, by simp only [runNT, hs]; exact e, g⟩
theorem Must.bind {P : Program} {Goal Goal' : Machine → Trace → Prop} {m : Machine} {t : Trace} (h : Must P Goal m t) (k : ∀ m t, Goal m t → Must P Goal' m t) : Must P Goal' m t := by
  obtain ⟨N, m1, t1, e1, g1⟩ := h
  obtain ⟨N2, m2, t2, e2, g2⟩ := k _ _ g1
  exact ⟨N + N2, m2, t2, runNT_seq e1 e2, g2⟩

theorem Deaf_ne (t : Trace) (g : Nat) (u : Trace) (hu : ∀ op ∈ u, op.g ≠ g) : Deaf (t ++ u) g = Deaf t g := by
  obtain ⟨l⟩ := u
  rw [Deaf_append]
  have : ∀ (l : List MemOp) (d : Nat), (∀ op ∈ l, op.g ≠ g) → l.foldl (deafStep g) d = d := by
    intro l
    induction l with
    | nil => intro d _; rfl
    | cons a l ih =>
      intro d h
      have ha : deafStep g d a = d := by
        have := h a (by simp)
        unfold deafStep
        split <;> simp_all
      simp only [List.foldl_cons, ha]
      exact ih d fun op hop => h op (by simp [hop])
  exact this l _ fun op hop => hu op (by simpa using hop)

/-- All but the goroutines of Sp are only leaving. -/
structure Crew (P : Program) (Sp : Nat → Prop) (t : Trace) (gs : Array Goroutine) (q : Nat → Nat) : Prop where
  old : ∀ i g, ¬ Sp i → gs[i]? = some g → QuitsD P (q i) (Deaf t i) g
  above : ∀ j, gs.size ≤ j → Deaf t j = 0
theorem Crew.of {P : Program} {t : Trace} {gs : Array Goroutine} {q : Nat → Nat} (h : Leavers P t gs q) : Crew P (· = 0) t gs q := ⟨fun i g hi hg => h.old i g (by omega) hg, h.above⟩
theorem Crew.to {P : Program} {t : Trace} {gs : Array Goroutine} {q : Nat → Nat} (h : Crew P (· = 0) t gs q) : Leavers P t gs q := ⟨fun i g hi hg => h.old i g (by omega) hg, h.above⟩
/-- Operations of the special ones, and whoever of the others was let try again. -/
theorem Crew.app {P : Program} {Sp : Nat → Prop} {t : Trace} {gs gs' : Array Goroutine} {q : Nat → Nat} (h : Crew P Sp t gs q) (u : Trace) (hu : ∀ op ∈ u, Sp op.g ∧ op.g < gs.size) (hs : gs'.size = gs.size)
    (hg : ∀ i g, ¬ Sp i → gs[i]? = some g → gs'[i]? = some g) : Crew P Sp (t ++ u) gs' q := by
  refine ⟨fun i g hi hgi => ?_, fun j hj => ?_⟩
  · rw [Deaf_ne t i u fun op hop e => hi (e ▸ (hu op hop).1)]
    have hlt : i < gs.size := by rw [← hs]; exact (Array.getElem?_eq_some_iff.1 hgi).1
    have h1 := hg i gs[i] hi (Array.getElem?_eq_getElem hlt)
    rw [h1] at hgi
    cases hgi
    exact h.old i _ hi (Array.getElem?_eq_getElem hlt)
  · rw [Deaf_ne t j u fun op hop e => by have := (hu op hop).2; omega]
    exact h.above j (by omega)
theorem g_ofEvents {g : Nat} {fn : FuncId} {pos : String} {es : Array Event} : ∀ op ∈ MemOp.ofEvents g fn pos es, op.g = g := by
  intro op hop
  obtain ⟨e, _, rfl⟩ := Go.Conc.mem_ofEvents hop
  rfl

/-- Where the machine stands when one of the special goroutines is about to move. -/
def Ready (P : Program) (Sp : Nat → Prop) (J : Trace → Prop) (gs : Array Goroutine) (w : World) (m : Machine) (t : Trace) : Prop :=
  ∃ (gs' : Array Goroutine) (d : Nat) (sl : Option (Nat × Nat)) (q : Nat → Nat) (i : Nat) (g : Goroutine) (d' : Nat) (sl' : Option (Nat × Nat)), m = crowd gs' (w.at d) sl ∧ gs'.size = gs.size ∧ (∀ i, Sp i → gs'[i]? = gs[i]?) ∧ Crew P Sp t gs' q ∧ J t ∧
    Sp i ∧ gs'[i]? = some g ∧ g.status = .running ∧ stepT P m = runT P (crowd gs' (w.at d') sl') i

theorem slip {P : Program} {Sp : Nat → Prop} {J : Trace → Prop} (hs0 : Sp 0) (hJ : ∀ t i fn pos (es : Array Event), ¬ Sp i → J t → (∀ e ∈ es, Event.mute e = true) → J (t ++ MemOp.ofEvents i fn pos es)) :
    ∀ (M : Nat) (gs : Array Goroutine) (w : World) (sl : Option (Nat × Nat)) (t : Trace) (q : Nat → Nat), sumTo gs.size q ≤ M → Crew P Sp t gs q →
      (∀ i g, Sp i → gs[i]? = some g → awake g ∧ ∀ d, g.again (w.at d) = g) → (∃ i g, Sp i ∧ gs[i]? = some g ∧ g.status = .running) → J t → Must P (Ready P Sp J gs w) (crowd gs w sl) t := by
  intro M
  induction M with
  | zero =>
    intro gs w sl t q hM hC hS hr hj
    have haw : ∀ g ∈ gs, awake g := by
      intro g hg
      obtain ⟨i, hi, rfl⟩ := Array.mem_iff_getElem.1 hg
      by_cases hsp : Sp i
      · exact (hS i _ hsp (Array.getElem?_eq_getElem hi)).1
      · exact awake_of ((hC.old i _ hsp (Array.getElem?_eq_getElem hi)).status.elim .inl fun x => .inr (.inr x))
    obtain ⟨i0, g0, hsp0, hg0, hr0⟩ := hr
    obtain ⟨i, g, d, sl', hi, hg, hst⟩ := crowd_pick (P := P) (w := w) (sl := sl) haw ⟨i0, g0, hg0, hr0⟩
    by_cases hsp : Sp i
    · exact .done ⟨gs, w.drawn, sl, q, i, g, d, sl', rfl, rfl, fun _ _ => rfl, hC, hj, hsp, hi, hg, hst⟩
    · have hq := hC.old i g hsp hi
      have hlt : i < gs.size := (Array.getElem?_eq_some_iff.1 hi).1
      have := le_sumTo (f := q) hlt
      rw [show q i = 0 by omega] at hq
      rw [hq.1] at hg; cases hg
  | succ M ih =>
    intro gs w sl t q hM hC hS hr hj
    have haw : ∀ g ∈ gs, awake g := by
      intro g hg
      obtain ⟨i, hi, rfl⟩ := Array.mem_iff_getElem.1 hg
      by_cases hsp : Sp i
      · exact (hS i _ hsp (Array.getElem?_eq_getElem hi)).1
      · exact awake_of ((hC.old i _ hsp (Array.getElem?_eq_getElem hi)).status.elim .inl fun x => .inr (.inr x))
    obtain ⟨i0, g0, hsp0, hg0, hr0⟩ := hr
    obtain ⟨i, g, d, sl', hi, hg, hst⟩ := crowd_pick (P := P) (w := w) (sl := sl) haw ⟨i0, g0, hg0, hr0⟩
    by_cases hsp : Sp i
    · exact .done ⟨gs, w.drawn, sl, q, i, g, d, sl', rfl, rfl, fun _ _ => rfl, hC, hj, hsp, hi, hg, hst⟩
    · have hq := hC.old i g hsp hi
      have hlt : i < gs.size := (Array.getElem?_eq_some_iff.1 hi).1
      cases hqi : q i with
      | zero => rw [hqi] at hq; rw [hq.1] at hg; cases hg
      | succ k =>
        rw [hqi] at hq
        rcases hq with ⟨hf, _⟩ | ⟨_, g', es, hm, hstp, hq'⟩
        · rw [hf] at hg; cases hg
        have hne : i ≠ 0 := fun e => hsp (e ▸ hs0)
        have hi0 : (i == 0) = false := by simp [hne]
        have hrunT := runT_crowd_go (P := P) (sl := sl') (i := i) hi (by rw [hi0]; exact hstp (w.at d))
        have hsz : ((gs.map (woken P g g' (w.at d))).setIfInBounds i g').size = gs.size := by simp
        have hsum : sumTo gs.size (Go.ConcN.upd q i k) + (k + 1) = sumTo gs.size q + k := by
          have := sumTo_upd q k id hlt
          simpa [hqi] using this
        have keep : ∀ j, Sp j → ((gs.map (woken P g g' (w.at d))).setIfInBounds i g')[j]? = gs[j]? := by
          intro j hj
          have hij : i ≠ j := fun e => hsp (e ▸ hj)
          rw [Array.getElem?_setIfInBounds_ne hij, Array.getElem?_map]
          cases hgj : gs[j]? with
          | none => rfl
          | some x =>
            have := (hS j x hj hgj).2 d
            simp only [Option.map_some, woken]
            split
            · rw [this]
            · rfl
        have hC' : Crew P Sp (t ++ MemOp.ofEvents i g.frame.fn g.frame.place es) ((gs.map (woken P g g' (w.at d))).setIfInBounds i g') (Go.ConcN.upd q i k) := by
          refine ⟨fun j x hj hx => ?_, fun j hj => ?_⟩
          · by_cases hji : i = j
            · subst hji
              rw [Array.getElem?_setIfInBounds_self_of_lt (by simpa using hlt)] at hx
              obtain rfl := Option.some.inj hx
              rw [upd_same, Deaf_own]
              exact hq'
            · rw [Array.getElem?_setIfInBounds_ne hji, Array.getElem?_map] at hx
              obtain ⟨y, hy, rfl⟩ := Option.map_eq_some_iff.1 hx
              have hqj := hC.old j y hj hy
              rw [woken_quitsD hqj, upd_ne q k (Ne.symm hji), Deaf_ne t j _ (fun op hop => by rw [g_ofEvents op hop]; exact hji)]
              exact hqj
          · rw [Deaf_ne t j _ (fun op hop => by rw [g_ofEvents op hop]; rw [hsz] at hj; omega)]
            exact hC.above j (by rw [hsz] at hj; exact hj)
        have := ih ((gs.map (woken P g g' (w.at d))).setIfInBounds i g') (w.at d) sl' (t ++ MemOp.ofEvents i g.frame.fn g.frame.place es) (Go.ConcN.upd q i k) (by rw [hsz]; omega) hC'
          (fun j x hj hx => by rw [keep j hj] at hx; exact ⟨(hS j x hj hx).1, (hS j x hj hx).2⟩)
          ⟨i0, g0, hsp0, by rw [keep i0 hsp0]; exact hg0, hr0⟩ (hJ t i _ _ es hsp hj hm)
        refine .step (hst.trans hrunT) (this.bind fun m t h => .done ?_)
        obtain ⟨gs', d1, sl1, q1, i1, g1, d1', sl1', e1, e2, e3, e4, e5, e6, e7, e8, e9⟩ := h
        exact ⟨gs', d1, sl1, q1, i1, g1, d1', sl1', e1, e2.trans hsz, fun j hj => (e3 j hj).trans (keep j hj), e4, e5, e6, e7, e8, e9⟩

theorem hun_emp (h : AH) : hun h (fun _ => none) = h := by
  funext b
  simp only [hun]
  cases h b <;> rfl
theorem disj_emp (h : AH) : Disj h (fun _ => none) := fun _ => .inr rfl
theorem zf_emp : zf (fun _ => none) = fun _ => none := rfl
theorem cells_emp : OnlyRows (fun _ => none) := fun _ _ h => by cases h

theorem EvOK.low {X R : AH} {B : Nat} {e : Event} (h : EvOK X R e) (hX : ∀ b, X b ≠ none → b < B) (hR : ∀ b, R b ≠ none → b < B) : EvL (fun _ => False) B e := by
  obtain ⟨loc, wr, sy⟩ := e
  refine ⟨fun _ _ hs => hs.elim, ?_, ?_, ?_⟩
  · rcases h with ⟨a, h1, _⟩ | ⟨r, h1, _⟩ | ⟨m, h1, h2⟩
    · simp only at h1; rw [h1]; simp
    · simp only at h1; rw [h1]; simp
    · simp only at h1; rw [h1]; intro e; cases e; cases h2
  · rcases h with ⟨a, h1, _⟩ | ⟨r, h1, _⟩ | ⟨m, h1, h2⟩
    · simp only at h1; rw [h1]; simp
    · simp only at h1; rw [h1]; simp
    · simp only at h1; rw [h1]; intro e; cases e; cases h2
  · rcases h with ⟨a, h1, h2 | h2⟩ | ⟨r, h1, h2⟩ | ⟨m, h1, h2⟩
    · simp only at h1; subst h1; exact hX _ h2
    · simp only at h1; subst h1; exact hR _ h2.1
    · simp only at h1; subst h1
      cases wr <;> cases sy <;> exact hX _ h2
    · simp only at h1; subst h1
      cases m <;> first | exact trivial | cases h2

/-- One step of goroutine 0, beside leavers. -/
theorem sem_far {P : Program} {fr : Frame} {cs : List Frame} {h : AH} {β : Type} {s : Sem β} {ok : β → Prop} {okp : Value → Prop} {nxt : β → Frame × List Frame} {pan : Value → Frame × List Frame} {X : β → AH → Prop} {Y : Value → AH → Prop}
    {Q : Frame → List Frame → AH → Prop}
    (hs : StepBy P fr cs s ok okp nxt pan) (hd : dem P s h X Y) (hok : ∀ b h', X b h' → ok b) (hokp : ∀ v h', Y v h' → okp v) (hx : ∀ b h', X b h' → Far P Q (nxt b).1 (nxt b).2 h') (hy : ∀ v h', Y v h' → Far P Q (pan v).1 (pan v).2 h') : Far P Q fr cs h := by
  intro F gs w sl t q h0 hh d hL hP
  have rd := slip (P := P) (Sp := (· = 0)) (J := Past (fun _ => False) w.heap.size) rfl (fun t i fn pos es hi hj hm => hj.mute hi hm) _ gs w sl t q (Nat.le_refl _) (Crew.of hL)
    (fun i g hi hg => by
      subst hi
      rw [h0] at hg
      cases hg
      exact ⟨awake_of (.inl rfl), fun d => again_running _ (.inl rfl)⟩) ⟨0, _, rfl, h0, rfl⟩ hP
  obtain ⟨N1, m1, t1, e1, gs1, d1, sl1, q1, i, g, d1', sl1', rfl, hsz, hkeep, hC1, hP1, hi, hg, hrun, hst⟩ := rd
  subst hi
  rw [hkeep 0 rfl, h0] at hg
  cases hg
  have hg0 : gs1[0]? = some (G fr cs) := by rw [hkeep 0 rfl]; exact h0
  have az := dem_runZ (P := P) (Z := zf fun _ => none) (R := fun _ => none) (F := F) (lent_zf cells_emp) h (w.at d1') (by rw [hun_emp]; exact hh) (disj_emp h) (by rw [hun_emp]; exact d) (by rw [zf_emp, hun_emp]; exact hd)
  obtain ⟨X', w', z, hev, ho⟩ := az
  have zh := z.heap
  have zd := z.disjF
  rw [hun_emp] at zh zd
  have hX : ∀ b, X' b ≠ none → b < w'.heap.size := fun b hb => absH_lt zh (fun e => hb (hun_none e).1)
  have go : ∀ (fr' : Frame) (cs' : List Frame), (stepG P true (G fr cs) (w.at d1')).tells (s.events P (w.at d1') #[]) (G fr' cs') w' → Far P Q fr' cs' X' →
      ∃ (N : Nat) (gs' : Array Goroutine) (fr' : Frame) (cs' : List Frame) (h' : AH) (w' : World) (sl' : Option (Nat × Nat)) (t' : Trace) (q' : Nat → Nat),
        runNT P N (crowd gs w sl) t = (.next (crowd gs' w' sl'), t') ∧ gs'[0]? = some (G fr' cs') ∧ absH w'.heap = hun h' F ∧ Disj h' F ∧ Leavers P t' gs' q' ∧
          Past (fun _ => False) w'.heap.size t' ∧ SameEnv w w' ∧ Q fr' cs' h' := by
    intro fr' cs' ht far
    obtain ⟨es, hgo, hes⟩ := tells_eq.1 ht
    have hrunT := runT_crowd_go (P := P) (sl := sl1') (i := 0) hg0 (show stepG P (0 == 0) (G fr cs) (w.at d1') = _ from hgo)
    have hlt : 0 < gs1.size := (Array.getElem?_eq_some_iff.1 hg0).1
    have hL' := (hC1.app (gs' := (gs1.map (woken P (G fr cs) (G fr' cs') w')).setIfInBounds 0 (G fr' cs')) (MemOp.ofEvents 0 (G fr cs).frame.fn (G fr cs).frame.place es) (fun op hop => by rw [g_ofEvents op hop]; exact ⟨rfl, hlt⟩) (by simp)
      (fun j x hj hx => by
        rw [Array.getElem?_setIfInBounds_ne (fun e => hj e.symm), Array.getElem?_map, hx]
        simp only [Option.map_some]
        rw [woken_quitsD (hC1.old j x hj hx)])).to
    have hP' : Past (fun _ => False) w'.heap.size (t1 ++ MemOp.ofEvents 0 (G fr cs).frame.fn (G fr cs).frame.place es) := by
      refine (hP1.mono z.size).own fun e he => ?_
      have := hev #[] e (hes e he)
      rcases this with h1 | h1
      · simp at h1
      · exact h1.low hX (fun b hb => absurd rfl hb)
    obtain ⟨N2, gs2, fr2, cs2, h2, w2, sl2, t2, q2, e2, r2, r3, r4, r5, r6, r7, r8⟩ := far F _ w' sl1' _ q1 (by simp [hlt]) zh zd hL' hP'
    have z0 : SameEnv w (w.at d1') := ⟨rfl, rfl, rfl⟩
    refine ⟨N1 + (N2 + 1), gs2, fr2, cs2, h2, w2, sl2, t2, q2, runNT_seq e1 ?_, r2, r3, r4, r5, r6, (z0.trans z.env).trans r7, r8⟩
    simp only [runNT, hst.trans hrunT]
    exact e2
  rcases ho with ⟨a, ho, hk⟩ | ⟨v, ho, hk⟩
  · rw [zf_emp, hun_emp] at hk
    exact go _ _ ((hs true (w.at d1')).1 a w' ho (hok _ _ hk)) (hx _ _ hk)
  · rw [zf_emp, hun_emp] at hk
    exact go _ _ ((hs true (w.at d1')).2 v w' ho (hokp _ _ hk)) (hy _ _ hk)

theorem Far.bind {P : Program} {X Q : Frame → List Frame → AH → Prop} {fr : Frame} {cs : List Frame} {h : AH} (f : Far P X fr cs h) (k : ∀ fr cs h, X fr cs h → Far P Q fr cs h) : Far P Q fr cs h := by
  intro F gs w sl t q h1 h2 h3 h4 h5
  obtain ⟨N, gs', fr', cs', h', w', sl', t', q', e1, e2, e3, e4, e5, e6, e7, x⟩ := f F gs w sl t q h1 h2 h3 h4 h5
  obtain ⟨N2, gs2, fr2, cs2, h2', w2, sl2, t2, q2, r1, r2, r3, r4, r5, r6, r7, r8⟩ := k _ _ _ x F gs' w' sl' t' q' e2 e3 e4 e5 e6
  exact ⟨N + N2, gs2, fr2, cs2, h2', w2, sl2, t2, q2, runNT_seq e1 r1, r2, r3, r4, r5, r6, e7.trans r7, r8⟩

/-- SOUNDNESS beside leavers. -/
theorem Rch.beside [Lvl] (hco : Lvl.co = none) (hci : Lvl.ci = none) {P : Program} {Q : Frame → List Frame → AH → Prop} {fr : Frame} {cs : List Frame} {h : AH} (r : Rch P Q fr cs h) : Far P Q fr cs h := by
  induction r with
  | done q => intro F gs w sl t qq h1 h2 h3 h4 h5; exact ⟨0, gs, _, _, _, w, sl, t, qq, rfl, h1, h2, h3, h4, h5, .refl w, q⟩
  | sem s ok okp nxt pan X Y hs hd hok hokp _ _ ihx ihy => exact sem_far hs hd hok hokp ihx ihy
  | far hl X hf hs _ ih => exact hf.bind ih
  | send hl' _ _ _ _ => rw [hco] at hl'; cases hl'
  | recv hl' _ _ _ _ => rw [hci] at hl'; cases hl'
  | last hl' _ _ _ _ => rw [hci] at hl'; cases hl'

theorem runN_of_runNT {P : Program} : ∀ {N : Nat} {m m' : Machine} {t t' : Trace}, runNT P N m t = (.next m', t') → runN P N m = .next m'
  | 0, m, m', t, t', h => by
    simp only [runNT, Prod.mk.injEq] at h
    simp only [runN, h.1]
  | N + 1, m, m', t, t', h => by
    cases hs : stepT P m with
    | mk r ops =>
      cases r with
      | next m1 =>
        simp only [runNT, hs] at h
        simp only [runN, step, hs]
        exact runN_of_runNT h
      | _ => simp [runNT, hs] at h
theorem runN_seq {P : Program} : ∀ {N N' : Nat} {m m1 m2 : Machine}, runN P N m = .next m1 → runN P N' m1 = .next m2 → runN P (N + N') m = .next m2
  | 0, N', m, m1, m2, h, k => by
    simp only [runN, Stepped.next.injEq] at h
    subst h
    rw [Nat.zero_add]; exact k
  | N + 1, N', m, m1, m2, h, k => by
    rw [show N + 1 + N' = (N + N') + 1 by omega]
    cases hs : step P m with
    | next m' =>
      simp only [runN, hs] at h ⊢
      exact runN_seq h k
    | _ => simp [runN, hs] at h
theorem runNT_seqE {P : Program} {o : Outcome} {w : World} : ∀ {N N' : Nat} {m m1 : Machine} {t t1 t2 : Trace}, runNT P N m t = (.next m1, t1) → runNT P N' m1 t1 = (.ended o w, t2) → runNT P (N + N') m t = (.ended o w, t2)
  | 0, N', m, m1, t, t1, t2, h, k => by
    simp only [runNT, Prod.mk.injEq, Stepped.next.injEq] at h
    obtain ⟨rfl, rfl⟩ := h
    rw [Nat.zero_add]; exact k
  | N + 1, N', m, m1, t, t1, t2, h, k => by
    rw [show N + 1 + N' = (N + N') + 1 by omega]
    cases hs : stepT P m with
    | mk r ops =>
      cases r with
      | next m' =>
        simp only [runNT, hs] at h ⊢
        exact runNT_seqE h k
      | _ => simp [runNT, hs] at h

/-- A walk to the return: the run ends well. -/
theorem Rch.ends [Lvl] (hco : Lvl.co = none) (hci : Lvl.ci = none) {P : Program} {Q : Frame → List Frame → AH → Prop} {Post : Value → World → Prop} {fr : Frame} {cs : List Frame} {W : World} (r : Rch P Q fr cs (absH W.heap))
    (hq : ∀ fr cs h w, Q fr cs h → SameEnv W w → absH w.heap = h → AtEnd P (fun _ => False) w.heap.size Post (G fr cs) w) :
    ∃ M last o w' t', runNT P (M + 1) (solo (G fr cs) W) #[] = (.ended o w', t') ∧ runN P M (solo (G fr cs) W) = .next last ∧ step P last = .ended o w' ∧ Good P Post last o w' t' := by
  obtain ⟨N, gs, fr', cs', h', w', sl', t', q', e1, e2, e3, _, e5, e6, e7, x⟩ := r.beside hco hci (fun _ => none) #[G fr cs] W none #[] (fun _ => 0) rfl (hun_emp _).symm (disj_emp _) (leavers_one P _) (past_nil.mono (Nat.zero_le _))
  rw [hun_emp] at e3
  obtain ⟨N2, last, o, w2, t2, r1, r2, r3, r4⟩ := beside_ends (P := P) (Shun := fun _ => False) (B := w'.heap.size) (D := fun _ _ _ => False) (Post := Post) (n := 0) (fun _ _ _ h => h.elim) (sl := sl') e2 e5 e6
    (fun w1 hw1 => by
      obtain ⟨d, rfl⟩ := hw1
      have z0 : SameEnv w' (w'.at d) := ⟨rfl, rfl, rfl⟩
      exact hq _ _ _ (w'.at d) x (e7.trans z0) e3)
  have e0 : crowd #[G fr cs] W none = solo (G fr cs) W := rfl
  rw [e0] at e1
  have a1 := runNT_seqE (N := N) (N' := N2 + 1) e1 r1
  have a2 := runN_seq (runN_of_runNT e1) r2
  exact ⟨N + N2, last, o, w2, t2, a1, a2, r3, r4⟩

end Go.HL
/- The own logic, part GC: what is held of the trace while one goroutine works beside goroutine 0. Conditions: none. -/
namespace Go.HL
open Go Go.Conc Go.ConcN

def blkOf : Loc → Option Nat
  | .cell a => some a.block
  | .obj r => some r
  | _ => none
theorem blk_mem {l : Loc} (h : l.isMemory = true) : ∃ b, blkOf l = some b := by
  cases l <;> first | exact ⟨_, rfl⟩ | cases h
theorem mem_blk {l : Loc} {b : Nat} (h : blkOf l = some b) : l.isMemory = true := by
  cases l <;> first | rfl | cases h
theorem low_touch {B : Nat} {x : MemAct} {a : Touch} {b : Nat} (hl : x.low B) (h : x.touch? = some a) (hb : blkOf a.loc = some b) : b < B := by
  cases x with
  | access e =>
    simp only [MemAct.touch?, Option.some.injEq] at h
    subst h
    obtain ⟨loc, wr, sy⟩ := e
    cases loc <;> simp only [blkOf, Option.some.injEq, reduceCtorEq] at hb <;> subst hb <;> exact hl
  | mark m =>
    cases m <;> simp only [MemAct.touch?, Option.some.injEq, reduceCtorEq] at h <;> subst h <;> simp only [blkOf, Option.some.injEq] at hb <;> subst hb <;> exact hl
  | _ => simp [MemAct.touch?] at h

/-- Worker k owns W; S may be read by both; all else is goroutine 0's. -/
structure Duo (k B : Nat) (W S : Nat → Prop) (t : Trace) : Prop where
  clean : ∀ said, ¬ Race said t
  both : ∀ i a, touchAt t i = some a → a.loc.isMemory = true → Knows t 0 i ∨ Knows t k i
  main : ∀ i a b, touchAt t i = some a → blkOf a.loc = some b → ¬ W b → (S b → a.write = true) → Knows t 0 i
  work : ∀ i a b, touchAt t i = some a → blkOf a.loc = some b → (W b ∨ (S b ∧ a.write = true)) → Knows t k i
  over : ∀ i g, t.g? i = some g → g ≠ 0 → g ≠ k → t.counts i → ∃ j, t.g? j = some 0 ∧ HappensBefore t i j
  hears : Deaf t 0 = 0
  heark : Deaf t k = 0
  seen : ∀ op ∈ t, op.act.low B

section
variable {k B : Nat} {W S : Nat → Prop} {t u : Trace}
theorem seen_blk (h : ∀ op ∈ t, op.act.low B) {i : Nat} {a : Touch} {b : Nat} (ht : touchAt t i = some a) (hb : blkOf a.loc = some b) : b < B := by
  obtain ⟨x, hx, hxa⟩ := touch_of ht
  exact low_touch (h x (Array.mem_of_getElem? hx)) hxa hb
/-- New blocks are the worker's, or goroutine 0's. -/
theorem Duo.grow {B' : Nat} {W' : Nat → Prop} (h : Duo k B W S t) (hB : B ≤ B') (hW : ∀ b, b < B → (W' b ↔ W b)) : Duo k B' W' S t := by
  refine ⟨h.clean, h.both, fun i a b ht hb hw hs => ?_, fun i a b ht hb hw => ?_, h.over, h.hears, h.heark, fun op hop => MemAct.low_mono hB (h.seen op hop)⟩
  · have := seen_blk h.seen ht hb
    exact h.main i a b ht hb (fun e => hw ((hW b this).2 e)) hs
  · have := seen_blk h.seen ht hb
    exact h.work i a b ht hb (hw.imp (hW b this).1 id)

theorem g?_app {i : Nat} (hi : i < t.size) : (t ++ u).g? i = t.g? i := by simp [Trace.g?, getElem?_append_old hi]
theorem over_app {k : Nat} (h : ∀ i g, t.g? i = some g → g ≠ 0 → g ≠ k → t.counts i → ∃ j, t.g? j = some 0 ∧ HappensBefore t i j) (hu : ∀ op ∈ u, op.g = 0 ∨ op.g = k ∨ op.act.touch? = none) :
    ∀ i g, (t ++ u).g? i = some g → g ≠ 0 → g ≠ k → (t ++ u).counts i → ∃ j, (t ++ u).g? j = some 0 ∧ HappensBefore (t ++ u) i j := by
  intro i g hg hne hnk hc
  obtain ⟨x, hx, hx2⟩ := hc
  obtain ⟨op, hop, hox⟩ := touch_of hx
  rcases getElem?_append_cases hop with ⟨hi, hop'⟩ | ⟨_, hopu⟩
  · obtain ⟨j, hj, hb⟩ := h i g (by simpa [Trace.g?, getElem?_append_old hi] using hg) hne hnk ((counts_old hi).1 ⟨x, hx, hx2⟩)
    refine ⟨j, ?_, hb_app u hb⟩
    obtain ⟨y, hy, hyg⟩ := Option.map_eq_some_iff.1 hj
    exact Option.map_eq_some_iff.2 ⟨y, by rw [getElem?_append_old (lt_size_of_getElem? hy)]; exact hy, hyg⟩
  · have hgo : op.g = g := by simpa [Trace.g?, hop] using hg
    rcases hu op hopu with h0 | h0 | h0
    · exact absurd (hgo.symm.trans h0) hne
    · exact absurd (hgo.symm.trans h0) hnk
    · rw [h0] at hox; cases hox
theorem Deaf_q {g : Nat} (hu : ∀ op ∈ u, op.g ≠ g ∨ (op.act ≠ .mark .disable ∧ op.act ≠ .mark .enable)) : Deaf (t ++ u) g = Deaf t g := by
  obtain ⟨l⟩ := u
  rw [Deaf_append]
  have : ∀ (l : List MemOp) (d : Nat), (∀ op ∈ l, op.g ≠ g ∨ (op.act ≠ .mark .disable ∧ op.act ≠ .mark .enable)) → l.foldl (deafStep g) d = d := by
    intro l
    induction l with
    | nil => intro d _; rfl
    | cons a l ih =>
      intro d h
      have ha : deafStep g d a = d := by
        unfold deafStep
        rcases h a (by simp) with h1 | ⟨h1, h2⟩
        · split <;> simp_all
        · split <;> simp_all
      simp only [List.foldl_cons, ha]
      exact ih d fun op hop => h op (by simp [hop])
  exact this l _ fun op hop => hu op (by simpa using hop)

/-- A step of goroutine 0's. -/
theorem Duo.app0 (h : Duo k B W S t) (hk : k ≠ 0) (hu : ∀ op ∈ u, op.g = 0) (hm : ∀ op ∈ u, op.act ≠ .mark .disable ∧ op.act ≠ .mark .enable) (hl : ∀ op ∈ u, op.act.low B)
    (ht : ∀ op ∈ u, ∀ a, op.act.touch? = some a → ∀ b, blkOf a.loc = some b → ¬ W b ∧ (S b → a.write = false)) : Duo k B W S (t ++ u) := by
  have split : ∀ {i : Nat} {a : Touch}, touchAt (t ++ u) i = some a → (touchAt t i = some a) ∨ (∃ op, (t ++ u)[i]? = some op ∧ op ∈ u ∧ op.act.touch? = some a) := by
    intro i a ha
    obtain ⟨x, hx, hxa⟩ := touch_of ha
    rcases getElem?_append_cases hx with ⟨_, hx'⟩ | ⟨_, hxu⟩
    · exact .inl (by rw [touchAt_of hx']; exact hxa)
    · exact .inr ⟨x, hx, hxu, hxa⟩
  refine ⟨fun said => noRace_append (h.clean said) hu fun i a ha op hop b hb hc => ?_, fun i a ha hmem => ?_, fun i a b ha hb hw hs => ?_, fun i a b ha hb hw => ?_, over_app h.over fun op hop => .inl (hu op hop), ?_, ?_, seen_app h.seen hl⟩
  · obtain ⟨x, hx⟩ := blk_mem hc.2.1
    obtain ⟨h1, h2⟩ := ht op hop b hb x (by rw [← hc.1]; exact hx)
    refine h.main i a x ha hx h1 fun hs => ?_
    rcases hc.2.2.1 with h3 | h3
    · exact h3
    · rw [h2 hs] at h3; cases h3
  · rcases split ha with h1 | ⟨op, h1, h2, h3⟩
    · exact (h.both i a h1 hmem).imp (·.app u) (·.app u)
    · have := knows_own h1
      rw [hu op h2] at this
      exact .inl this
  · rcases split ha with h1 | ⟨op, h1, h2, h3⟩
    · exact (h.main i a b h1 hb hw hs).app u
    · have := knows_own h1
      rw [hu op h2] at this
      exact this
  · rcases split ha with h1 | ⟨op, h1, h2, h3⟩
    · exact (h.work i a b h1 hb hw).app u
    · obtain ⟨h4, h5⟩ := ht op h2 a h3 b hb
      rcases hw with hw | ⟨hs, hw⟩
      · exact absurd hw h4
      · rw [h5 hs] at hw; cases hw
  · rw [Deaf_q fun op hop => .inr (hm op hop)]; exact h.hears
  · rw [Deaf_q fun op hop => .inr (hm op hop)]; exact h.heark
/-- A step of the worker's. -/
theorem Duo.appk (h : Duo k B W S t) (hu : ∀ op ∈ u, op.g = k) (hm : ∀ op ∈ u, op.act ≠ .mark .disable ∧ op.act ≠ .mark .enable) (hl : ∀ op ∈ u, op.act.low B)
    (ht : ∀ op ∈ u, ∀ a, op.act.touch? = some a → ∀ b, blkOf a.loc = some b → W b ∨ (S b ∧ a.write = false)) : Duo k B W S (t ++ u) := by
  have split : ∀ {i : Nat} {a : Touch}, touchAt (t ++ u) i = some a → (touchAt t i = some a) ∨ (∃ op, (t ++ u)[i]? = some op ∧ op ∈ u ∧ op.act.touch? = some a) := by
    intro i a ha
    obtain ⟨x, hx, hxa⟩ := touch_of ha
    rcases getElem?_append_cases hx with ⟨_, hx'⟩ | ⟨_, hxu⟩
    · exact .inl (by rw [touchAt_of hx']; exact hxa)
    · exact .inr ⟨x, hx, hxu, hxa⟩
  refine ⟨fun said => noRace_append (h.clean said) hu fun i a ha op hop b hb hc => ?_, fun i a ha hmem => ?_, fun i a b ha hb hw hs => ?_, fun i a b ha hb hw => ?_, over_app h.over fun op hop => .inr (.inl (hu op hop)), ?_, ?_, seen_app h.seen hl⟩
  · obtain ⟨x, hx⟩ := blk_mem hc.2.1
    refine h.work i a x ha hx ?_
    rcases ht op hop b hb x (by rw [← hc.1]; exact hx) with h1 | ⟨h1, h2⟩
    · exact .inl h1
    · refine .inr ⟨h1, ?_⟩
      rcases hc.2.2.1 with h3 | h3
      · exact h3
      · rw [h2] at h3; cases h3
  · rcases split ha with h1 | ⟨op, h1, h2, h3⟩
    · exact (h.both i a h1 hmem).imp (·.app u) (·.app u)
    · have := knows_own h1
      rw [hu op h2] at this
      exact .inr this
  · rcases split ha with h1 | ⟨op, h1, h2, h3⟩
    · exact (h.main i a b h1 hb hw hs).app u
    · rcases ht op h2 a h3 b hb with h4 | ⟨h4, h5⟩
      · exact absurd h4 hw
      · rw [hs h4] at h5; cases h5
  · rcases split ha with h1 | ⟨op, h1, h2, h3⟩
    · exact (h.work i a b h1 hb hw).app u
    · have := knows_own h1
      rw [hu op h2] at this
      exact this
  · rw [Deaf_q fun op hop => .inr (hm op hop)]; exact h.hears
  · rw [Deaf_q fun op hop => .inr (hm op hop)]; exact h.heark
/-- Operations that touch nothing. -/
theorem Duo.mute (h : Duo k B W S t) (hl : ∀ op ∈ u, op.act.low B) (hn : ∀ op ∈ u, op.act.touch? = none) (hm : ∀ op ∈ u, (op.g ≠ 0 ∧ op.g ≠ k) ∨ (op.act ≠ .mark .disable ∧ op.act ≠ .mark .enable)) : Duo k B W S (t ++ u) := by
  have split : ∀ {i : Nat} {a : Touch}, touchAt (t ++ u) i = some a → (touchAt t i = some a ∧ i < t.size) := by
    intro i a ha
    obtain ⟨x, hx, hxa⟩ := touch_of ha
    rcases getElem?_append_cases hx with ⟨hi, hx'⟩ | ⟨_, hxu⟩
    · exact ⟨by rw [touchAt_of hx']; exact hxa, hi⟩
    · rw [hn x hxu] at hxa; cases hxa
  refine ⟨?_, fun i a ha hmem => (h.both i a (split ha).1 hmem).imp (·.app u) (·.app u), fun i a b ha hb hw hs => (h.main i a b (split ha).1 hb hw hs).app u, fun i a b ha hb hw => (h.work i a b (split ha).1 hb hw).app u,
    over_app h.over fun op hop => .inr (.inr (hn op hop)), ?_, ?_, seen_app h.seen hl⟩
  · rintro said ⟨i, j, hij, ⟨a, b, ha, hb, hc⟩, n1, n2⟩
    exact h.clean said ⟨i, j, hij, ⟨a, b, (split ha).1, (split hb).1, hc⟩, fun e => n1 (hb_app u e), fun e => n2 (hb_app u e)⟩
  · rw [Deaf_q fun op hop => (hm op hop).imp (·.1) id]; exact h.hears
  · rw [Deaf_q fun op hop => (hm op hop).imp (·.2) id]; exact h.heark
theorem g0_act {x : MemOp} {t : Trace} {i : Nat} (h : t[i]? = some x) : t.act? i = some x.act ∧ t.g? i = some x.g := by simp [Trace.act?, Trace.g?, h]
/-- Goroutine 0 starts the worker, and gives it what it likes. -/
theorem Duo.spawn (h : Past (fun _ => False) B t) (hk : k ≠ 0) (hd : Deaf t k = 0) {x y : MemOp} (hx : x.g = 0) (hxa : x.act = .go k) (hy : y.g = k) (hya : y.act = .start) : Duo k B W S (t ++ #[x, y]) := by
  have ex : (t ++ #[x, y])[t.size]? = some x := by simp
  have ey : (t ++ #[x, y])[t.size + 1]? = some y := by simp
  have hu : ∀ op ∈ (#[x, y] : Array MemOp), op = x ∨ op = y := by simp
  have nt : ∀ op ∈ (#[x, y] : Array MemOp), op.act.touch? = none := by
    intro op hop
    rcases hu op hop with rfl | rfl
    · rw [hxa]; rfl
    · rw [hya]; rfl
  have nm : ∀ op ∈ (#[x, y] : Array MemOp), op.act ≠ .mark .disable ∧ op.act ≠ .mark .enable := by
    intro op hop
    rcases hu op hop with rfl | rfl
    · rw [hxa]; exact ⟨by simp, by simp⟩
    · rw [hya]; exact ⟨by simp, by simp⟩
  have split : ∀ {i : Nat} {a : Touch}, touchAt (t ++ #[x, y]) i = some a → touchAt t i = some a := by
    intro i a ha
    obtain ⟨z, hz, hza⟩ := touch_of ha
    rcases getElem?_append_cases hz with ⟨hi, hz'⟩ | ⟨_, hzu⟩
    · rw [touchAt_of hz']; exact hza
    · rw [nt z hzu] at hza; cases hza
  have k0 : ∀ i a, touchAt t i = some a → a.loc.isMemory = true → Knows t 0 i := fun i a ha hm => (h.known i a ha hm).resolve_right fun e => e.1
  have heardx : (t ++ #[x, y]).heard t.size := ⟨0, by rw [(g0_act ex).2, hx], by rw [deaf_old (Nat.le_refl _)]; exact h.hears⟩
  have heardy : (t ++ #[x, y]).heard (t.size + 1) := by
    refine ⟨k, by rw [(g0_act ey).2, hy], ?_⟩
    rw [deaf_succ ex, deaf_old (Nat.le_refl _)]
    have : deafStep k (t.deaf k t.size) x = t.deaf k t.size := by unfold deafStep; rw [hxa]
    rw [this]; exact hd
  have edge : HappensBefore (t ++ #[x, y]) t.size (t.size + 1) := .single (.inr ⟨.spawn (child := k) (by rw [(g0_act ex).1, hxa]) (by rw [(g0_act ey).1, hya]) (by rw [(g0_act ey).2, hy]), heardx, heardy⟩)
  have kk : ∀ i, Knows t 0 i → Knows (t ++ #[x, y]) k i := by
    intro i hi
    have h1 := hi.hb_new (Nat.le_refl _) ex hx
    exact ⟨t.size + 1, y, ey, hy, .inr (h1.trans edge)⟩
  refine ⟨?_, fun i a ha hm => .inl ((k0 i a (split ha) hm).app _), fun i a b ha hb _ _ => (k0 i a (split ha) (mem_blk hb)).app _, fun i a b ha hb _ => kk i (k0 i a (split ha) (mem_blk hb)), ?_, ?_, ?_, seen_app h.seen ?_⟩
  · rintro said ⟨i, j, hij, ⟨a, b, ha, hb, hc⟩, n1, n2⟩
    exact h.clean said ⟨i, j, hij, ⟨a, b, split ha, split hb, hc⟩, fun e => n1 (hb_app _ e), fun e => n2 (hb_app _ e)⟩
  · exact over_app (fun i g hg h0 _ hc => h.over i g hg h0 hc) fun op hop => .inr (.inr (nt op hop))
  · rw [Deaf_q fun op hop => .inr (nm op hop)]; exact h.hears
  · rw [Deaf_q fun op hop => .inr (nm op hop)]; exact hd
  · intro op hop
    rcases hu op hop with rfl | rfl
    · rw [hxa]; exact trivial
    · rw [hya]; exact trivial

/-- The worker has closed the channel c, at pc; it only leaves. -/
structure Shut (c B : Nat) (W S : Nat → Prop) (pc : Nat) (t : Trace) : Prop where
  clean : ∀ said, ¬ Race said t
  both : ∀ i a, touchAt t i = some a → a.loc.isMemory = true → Knows t 0 i ∨ HappensBefore t i pc
  main : ∀ i a b, touchAt t i = some a → blkOf a.loc = some b → ¬ W b → (S b → a.write = true) → Knows t 0 i
  over : ∀ i g, t.g? i = some g → g ≠ 0 → t.counts i → (∃ j, t.g? j = some 0 ∧ HappensBefore t i j) ∨ HappensBefore t i pc
  hears : Deaf t 0 = 0
  close : t.act? pc = some (.close c) ∧ t.heard pc ∧ pc < t.size
  seen : ∀ op ∈ t, op.act.low B
theorem Shut.mono {c pc B' : Nat} (h : Shut c B W S pc t) (hB : B ≤ B') : Shut c B' W S pc t := ⟨h.clean, h.both, h.main, h.over, h.hears, h.close, fun op hop => MemAct.low_mono hB (h.seen op hop)⟩
theorem heard_app {i : Nat} (h : t.heard i) (hi : i < t.size) : (t ++ u).heard i := by
  obtain ⟨g, hg, hd⟩ := h
  exact ⟨g, by rw [g?_app hi]; exact hg, by rw [deaf_old (Nat.le_of_lt hi)]; exact hd⟩
theorem Shut.of {c : Nat} (h : Duo k B W S t) {y : MemOp} (hy : y.g = k) (hya : y.act = .close c) (hc : c < B) : Shut c B W S t.size (t ++ #[y]) := by
  have ey : (t ++ #[y])[t.size]? = some y := by simp
  have hu : ∀ op ∈ (#[y] : Array MemOp), op = y := by simp
  have nt : ∀ op ∈ (#[y] : Array MemOp), op.act.touch? = none := by
    intro op hop
    rw [hu op hop, hya]; rfl
  have nm : ∀ op ∈ (#[y] : Array MemOp), op.act ≠ .mark .disable ∧ op.act ≠ .mark .enable := by
    intro op hop
    rw [hu op hop, hya]; exact ⟨by simp, by simp⟩
  have D := h.mute (u := #[y]) (fun op hop => by rw [hu op hop, hya]; exact hc) nt fun op hop => .inr (nm op hop)
  have split : ∀ {i : Nat} {a : Touch}, touchAt (t ++ #[y]) i = some a → touchAt t i = some a ∧ i < t.size := by
    intro i a ha
    obtain ⟨z, hz, hza⟩ := touch_of ha
    rcases getElem?_append_cases hz with ⟨hi, hz'⟩ | ⟨_, hzu⟩
    · exact ⟨by rw [touchAt_of hz']; exact hza, hi⟩
    · rw [nt z hzu] at hza; cases hza
  refine ⟨D.clean, fun i a ha hm => ?_, D.main, fun i g hg h0 hc => ?_, D.hears, ⟨by rw [(g0_act ey).1, hya], ⟨k, by rw [(g0_act ey).2, hy], by rw [deaf_old (Nat.le_refl _)]; exact h.heark⟩, by simp⟩, D.seen⟩
  · rcases h.both i a (split ha).1 hm with h1 | h1
    · exact .inl (h1.app _)
    · exact .inr (h1.hb_new (Nat.le_refl _) ey hy)
  · by_cases hgk : g = k
    · subst hgk
      obtain ⟨x, hx, _⟩ := hc
      obtain ⟨_, hi⟩ := split hx
      right
      obtain ⟨z, hz, hzg⟩ := Option.map_eq_some_iff.1 hg
      exact hb_po hi hz ey (hzg.trans hy.symm)
    · exact .inl (D.over i g hg h0 hgk hc)
theorem over_app2 {pc : Nat} (h : ∀ i g, t.g? i = some g → g ≠ 0 → t.counts i → (∃ j, t.g? j = some 0 ∧ HappensBefore t i j) ∨ HappensBefore t i pc) (hu : ∀ op ∈ u, op.g = 0 ∨ op.act.touch? = none) :
    ∀ i g, (t ++ u).g? i = some g → g ≠ 0 → (t ++ u).counts i → (∃ j, (t ++ u).g? j = some 0 ∧ HappensBefore (t ++ u) i j) ∨ HappensBefore (t ++ u) i pc := by
  intro i g hg hne hc
  obtain ⟨x, hx, hx2⟩ := hc
  obtain ⟨op, hop, hox⟩ := touch_of hx
  rcases getElem?_append_cases hop with ⟨hi, hop'⟩ | ⟨_, hopu⟩
  · rcases h i g (by simpa [Trace.g?, getElem?_append_old hi] using hg) hne ((counts_old hi).1 ⟨x, hx, hx2⟩) with ⟨j, hj, hb⟩ | hb
    · refine .inl ⟨j, ?_, hb_app u hb⟩
      obtain ⟨y, hy, hyg⟩ := Option.map_eq_some_iff.1 hj
      exact Option.map_eq_some_iff.2 ⟨y, by rw [getElem?_append_old (lt_size_of_getElem? hy)]; exact hy, hyg⟩
    · exact .inr (hb_app u hb)
  · have hgo : op.g = g := by simpa [Trace.g?, hop] using hg
    rcases hu op hopu with h0 | h0
    · exact absurd (hgo.symm.trans h0) hne
    · rw [h0] at hox; cases hox
theorem act?_app {i : Nat} (hi : i < t.size) : (t ++ u).act? i = t.act? i := by simp [Trace.act?, getElem?_append_old hi]
theorem Shut.app0 {c pc : Nat} (h : Shut c B W S pc t) (hu : ∀ op ∈ u, op.g = 0) (hm : ∀ op ∈ u, op.act ≠ .mark .disable ∧ op.act ≠ .mark .enable) (hl : ∀ op ∈ u, op.act.low B)
    (ht : ∀ op ∈ u, ∀ a, op.act.touch? = some a → ∀ b, blkOf a.loc = some b → ¬ W b ∧ (S b → a.write = false)) : Shut c B W S pc (t ++ u) := by
  have split : ∀ {i : Nat} {a : Touch}, touchAt (t ++ u) i = some a → (touchAt t i = some a) ∨ (∃ op, (t ++ u)[i]? = some op ∧ op ∈ u ∧ op.act.touch? = some a) := by
    intro i a ha
    obtain ⟨x, hx, hxa⟩ := touch_of ha
    rcases getElem?_append_cases hx with ⟨_, hx'⟩ | ⟨_, hxu⟩
    · exact .inl (by rw [touchAt_of hx']; exact hxa)
    · exact .inr ⟨x, hx, hxu, hxa⟩
  refine ⟨fun said => noRace_append (h.clean said) hu fun i a ha op hop b hb hc => ?_, fun i a ha hmem => ?_, fun i a b ha hb hw hs => ?_, over_app2 h.over fun op hop => .inl (hu op hop), ?_, ⟨by rw [act?_app h.close.2.2]; exact h.close.1, heard_app h.close.2.1 h.close.2.2, by have := h.close.2.2; simp; omega⟩, seen_app h.seen hl⟩
  · obtain ⟨x, hx⟩ := blk_mem hc.2.1
    obtain ⟨h1, h2⟩ := ht op hop b hb x (by rw [← hc.1]; exact hx)
    refine h.main i a x ha hx h1 fun hs => ?_
    rcases hc.2.2.1 with h3 | h3
    · exact h3
    · rw [h2 hs] at h3; cases h3
  · rcases split ha with h1 | ⟨op, h1, h2, h3⟩
    · exact (h.both i a h1 hmem).imp (·.app u) (hb_app u)
    · have := knows_own h1
      rw [hu op h2] at this
      exact .inl this
  · rcases split ha with h1 | ⟨op, h1, h2, h3⟩
    · exact (h.main i a b h1 hb hw hs).app u
    · have := knows_own h1
      rw [hu op h2] at this
      exact this
  · rw [Deaf_q fun op hop => .inr (hm op hop)]; exact h.hears
theorem Shut.mute {c pc : Nat} (h : Shut c B W S pc t) (hl : ∀ op ∈ u, op.act.low B) (hn : ∀ op ∈ u, op.act.touch? = none) (hm : ∀ op ∈ u, op.g ≠ 0) : Shut c B W S pc (t ++ u) := by
  have split : ∀ {i : Nat} {a : Touch}, touchAt (t ++ u) i = some a → touchAt t i = some a := by
    intro i a ha
    obtain ⟨x, hx, hxa⟩ := touch_of ha
    rcases getElem?_append_cases hx with ⟨_, hx'⟩ | ⟨_, hxu⟩
    · rw [touchAt_of hx']; exact hxa
    · rw [hn x hxu] at hxa; cases hxa
  refine ⟨?_, fun i a ha hmem => (h.both i a (split ha) hmem).imp (·.app u) (hb_app u), fun i a b ha hb hw hs => (h.main i a b (split ha) hb hw hs).app u, over_app2 h.over fun op hop => .inr (hn op hop), ?_,
    ⟨by rw [act?_app h.close.2.2]; exact h.close.1, heard_app h.close.2.1 h.close.2.2, by have := h.close.2.2; simp; omega⟩, seen_app h.seen hl⟩
  · rintro said ⟨i, j, hij, ⟨a, b, ha, hb, hc⟩, n1, n2⟩
    exact h.clean said ⟨i, j, hij, ⟨a, b, split ha, split hb, hc⟩, fun e => n1 (hb_app u e), fun e => n2 (hb_app u e)⟩
  · rw [Deaf_q fun op hop => .inl (hm op hop)]; exact h.hears
/-- Goroutine 0 finds the channel closed: all is its own again. -/
theorem Shut.past {c pc : Nat} (h : Shut c B W S pc t) (hc : c < B) {y : MemOp} (hy : y.g = 0) (hya : y.act = .recvClosed c) : Past (fun _ => False) B (t ++ #[y]) := by
  have ey : (t ++ #[y])[t.size]? = some y := by simp
  have hu : ∀ op ∈ (#[y] : Array MemOp), op = y := by simp
  have nt : ∀ op ∈ (#[y] : Array MemOp), op.act.touch? = none := by
    intro op hop
    rw [hu op hop, hya]; rfl
  have split : ∀ {i : Nat} {a : Touch}, touchAt (t ++ #[y]) i = some a → touchAt t i = some a := by
    intro i a ha
    obtain ⟨x, hx, hxa⟩ := touch_of ha
    rcases getElem?_append_cases hx with ⟨_, hx'⟩ | ⟨_, hxu⟩
    · rw [touchAt_of hx']; exact hxa
    · rw [nt x hxu] at hxa; cases hxa
  have edge : HappensBefore (t ++ #[y]) pc t.size := .single (.inr ⟨.closed (c := c) (by rw [act?_app h.close.2.2]; exact h.close.1) (by rw [(g0_act ey).1, hya]), heard_app h.close.2.1 h.close.2.2,
    ⟨0, by rw [(g0_act ey).2, hy], by rw [deaf_old (Nat.le_refl _)]; exact h.hears⟩⟩)
  refine ⟨?_, fun i a ha hm => .inl ?_, fun i g hg h0 hcn => ?_, ?_, seen_app h.seen fun op hop => by rw [hu op hop, hya]; exact hc⟩
  · rintro said ⟨i, j, hij, ⟨a, b, ha, hb, hcf⟩, n1, n2⟩
    exact h.clean said ⟨i, j, hij, ⟨a, b, split ha, split hb, hcf⟩, fun e => n1 (hb_app _ e), fun e => n2 (hb_app _ e)⟩
  · rcases h.both i a (split ha) hm with h1 | h1
    · exact h1.app _
    · exact ⟨t.size, y, ey, hy, .inr ((hb_app _ h1).trans edge)⟩
  · rcases over_app2 (u := #[y]) h.over (fun op hop => .inr (nt op hop)) i g hg h0 hcn with h1 | h1
    · exact h1
    · exact ⟨t.size, by rw [(g0_act ey).2, hy], h1.trans edge⟩
  · rw [Deaf_q fun op hop => .inr (by rw [hu op hop, hya]; exact ⟨by simp, by simp⟩)]; exact h.hears
end
end Go.HL
/- The own logic, part GD: one goroutine that sends beside goroutine 0 that receives: the machine. Conditions: none. -/
namespace Go.HL
open Go Go.Conc Go.ConcN

theorem Disj.symm {a b : AH} (d : Disj a b) : Disj b a := fun x => (d x).symm
theorem hun_comm {a b : AH} (d : Disj a b) : hun a b = hun b a := by
  funext x
  rcases d x with h1 | h1
  · simp only [hun, h1]; cases b x <;> rfl
  · simp only [hun, h1]; cases a x <;> rfl
theorem hun_swap {a b c : AH} (d : Disj a b) : hun a (hun b c) = hun b (hun a c) := by rw [← hun_assoc, hun_comm d, hun_assoc]
theorem Disj.of_hun_right {a b c : AH} (d : Disj a (HL.hun b c)) : Disj a b ∧ Disj a c := ⟨(d.symm.of_hun).1.symm, (d.symm.of_hun).2.symm⟩
def oneC (c : Nat) (o : Obj) : AH := hupd (fun _ => none) c o
theorem oneC_same (c : Nat) (o : Obj) : oneC c o c = some o := by simp [oneC, hupd]
theorem oneC_ne {c b : Nat} {o : Obj} (h : b ≠ c) : oneC c o b = none := by simp [oneC, hupd, h]
theorem disj_oneC {X : AH} {c : Nat} {o o' : Obj} (d : Disj X (oneC c o)) : Disj X (oneC c o') := by
  intro b
  rcases d b with h | h
  · exact .inl h
  · by_cases hb : b = c
    · subst hb; rw [oneC_same] at h; cases h
    · exact .inr (oneC_ne hb)

/-- The touches of a step. -/
theorem ev_touch {X R : AH} {e : Event} (h : EvOK X R e) {a : Touch} {b : Nat} (ht : (MemAct.ofEvent e).touch? = some a) (hb : blkOf a.loc = some b) : X b ≠ none ∨ (R b ≠ none ∧ a.write = false) := by
  obtain ⟨loc, wr, sy⟩ := e
  rcases h with ⟨ad, h1, h2⟩ | ⟨r, h1, h2⟩ | ⟨m, h1, h2⟩
  · simp only at h1; subst h1
    have : MemAct.ofEvent ⟨.cell ad, wr, sy⟩ = .access ⟨.cell ad, wr, sy⟩ := by cases wr <;> cases sy <;> rfl
    rw [this] at ht
    simp only [MemAct.touch?, Option.some.injEq] at ht
    subst ht
    simp only [blkOf, Option.some.injEq] at hb
    subst hb
    exact h2
  · simp only at h1; subst h1
    cases wr <;> cases sy <;> simp only [MemAct.ofEvent, MemAct.touch?, Option.some.injEq, reduceCtorEq] at ht <;> subst ht <;> simp only [blkOf, Option.some.injEq] at hb <;> subst hb <;> exact .inl h2
  · simp only at h1; subst h1
    have : MemAct.ofEvent ⟨.mark m, wr, sy⟩ = .mark m := by cases wr <;> cases sy <;> rfl
    rw [this] at ht
    cases m <;> first | (cases h2; done) | (cases ht; done)
theorem ev_mark {X R : AH} {e : Event} (h : EvOK X R e) : MemAct.ofEvent e ≠ .mark .disable ∧ MemAct.ofEvent e ≠ .mark .enable := by
  obtain ⟨loc, wr, sy⟩ := e
  rcases h with ⟨ad, h1, h2⟩ | ⟨r, h1, h2⟩ | ⟨m, h1, h2⟩
  · simp only at h1; subst h1; cases wr <;> cases sy <;> simp [MemAct.ofEvent]
  · simp only at h1; subst h1; cases wr <;> cases sy <;> simp [MemAct.ofEvent]
  · simp only at h1; subst h1; cases m <;> first | (cases h2; done) | (cases wr <;> cases sy <;> simp [MemAct.ofEvent])

/-- The machine while the worker k works and the channel c is open. -/
structure St (P : Program) (R F : AH) (c k : Nat) (tm : Bool) (w0 : World) (gs : Array Goroutine) (w : World) (t : Trace) (q : Nat → Nat) (hm hw : AH) (s r : Nat) (a b : Goroutine) : Prop where
  g0 : gs[0]? = some a
  gk : gs[k]? = some b
  k0 : k ≠ 0
  heap : absH w.heap = hun hm (hun hw (hun R (hun (oneC c (.chan 0 #[] false s r tm)) F)))
  mw : Disj hm hw
  mR : Disj hm R
  wR : Disj hw R
  mC : Disj hm (oneC c (.chan 0 #[] false s r tm))
  wC : Disj hw (oneC c (.chan 0 #[] false s r tm))
  rC : Disj R (oneC c (.chan 0 #[] false s r tm))
  mF : Disj hm F
  wF : Disj hw F
  rF : Disj R F
  cF : F c = none
  crew : Crew P (fun i => i = 0 ∨ i = k) t gs q
  duo : Duo k w.heap.size (fun b => hw b ≠ none) (fun b => R b ≠ none ∨ b = c) t
  env : SameEnv w0 w

def Stay (w : World) (g : Goroutine) : Prop := awake g ∧ ∀ d, g.again (w.at d) = g
theorem stay_run {w : World} {g : Goroutine} (h : g.status = .running) : Stay w g := ⟨awake_of (.inl h), fun _ => again_running _ (.inl h)⟩

section
variable {P : Program} {R F : AH} {c k : Nat} {tm : Bool} {w0 : World} {gs : Array Goroutine} {w : World} {t : Trace} {q : Nat → Nat} {hm hw : AH} {s r : Nat} {a b : Goroutine}
theorem St.chan (st : St P R F c k tm w0 gs w t q hm hw s r a b) : absH w.heap c = some (.chan 0 #[] false s r tm) := by
  have e0 := oneC_same c (.chan 0 #[] false s r tm)
  have e1 : hm c = none := (st.mC c).resolve_right (by rw [e0]; simp)
  have e2 : hw c = none := (st.wC c).resolve_right (by rw [e0]; simp)
  have e3 : R c = none := (st.rC c).resolve_right (by rw [e0]; simp)
  rw [st.heap]
  simp [hun, e1, e2, e3, e0]
theorem St.open (st : St P R F c k tm w0 gs w t q hm hw s r a b) : w.heap[c]? = some (.chan 0 #[] false s r tm) := st.chan
theorem St.clt (st : St P R F c k tm w0 gs w t q hm hw s r a b) : c < w.heap.size := absH_lt rfl (by rw [st.chan]; simp)
/-- Who moves. -/
theorem St.pick {Goal : Machine → Trace → Prop} (st : St P R F c k tm w0 gs w t q hm hw s r a b) (sl : Option (Nat × Nat)) (ha : Stay w a) (hb : Stay w b) (hr : a.status = .running ∨ b.status = .running)
    (h0 : a.status = .running → ∀ gs w sl t q, St P R F c k tm w0 gs w t q hm hw s r a b → ∃ m ops, runT P (crowd gs w sl) 0 = (.next m, ops) ∧ Must P Goal m (t ++ ops))
    (hk : b.status = .running → ∀ gs w sl t q, St P R F c k tm w0 gs w t q hm hw s r a b → ∃ m ops, runT P (crowd gs w sl) k = (.next m, ops) ∧ Must P Goal m (t ++ ops)) :
    Must P Goal (crowd gs w sl) t := by
  have rd := slip (P := P) (Sp := fun i => i = 0 ∨ i = k) (J := Duo k w.heap.size (fun b => hw b ≠ none) (fun b => R b ≠ none ∨ b = c)) (.inl rfl)
    (fun t i fn pos es hi hj hme => hj.mute (fun op hop => by obtain ⟨e, he, rfl⟩ := Go.Conc.mem_ofEvents hop; exact low_mute (hme e he) _) (fun op hop => by obtain ⟨e, he, rfl⟩ := Go.Conc.mem_ofEvents hop; exact touch_mute (hme e he))
      (fun op hop => .inl (by rw [g_ofEvents op hop]; exact ⟨fun e => hi (.inl e), fun e => hi (.inr e)⟩))) _ gs w sl t q (Nat.le_refl _) st.crew
    (fun i g hi hg => by
      rcases hi with rfl | rfl
      · rw [st.g0] at hg; cases hg; exact ha
      · rw [st.gk] at hg; cases hg; exact hb) (by
      rcases hr with hr | hr
      · exact ⟨0, a, .inl rfl, st.g0, hr⟩
      · exact ⟨k, b, .inr rfl, st.gk, hr⟩) st.duo
  refine rd.bind ?_
  rintro m t1 ⟨gs1, d1, sl1, q1, i, g, d1', sl1', rfl, hsz, hkeep, hC1, hD1, hi, hg, hrun, hst⟩
  have st1 : St P R F c k tm w0 gs1 (w.at d1') t1 q1 hm hw s r a b := ⟨by rw [hkeep 0 (.inl rfl)]; exact st.g0, by rw [hkeep k (.inr rfl)]; exact st.gk, st.k0, st.heap, st.mw, st.mR, st.wR, st.mC, st.wC, st.rC, st.mF, st.wF, st.rF, st.cF, hC1, hD1,
    st.env.trans ⟨rfl, rfl, rfl⟩⟩
  rcases hi with rfl | rfl
  · have : g = a := by rw [hkeep 0 (.inl rfl), st.g0] at hg; exact (Option.some.inj hg).symm
    subst this
    obtain ⟨m, ops, e, k⟩ := h0 hrun _ _ sl1' _ _ st1
    exact .step (hst.trans e) k
  · have : g = b := by rw [hkeep i (.inr rfl), st.gk] at hg; exact (Option.some.inj hg).symm
    subst this
    obtain ⟨m, ops, e, k⟩ := hk hrun _ _ sl1' _ _ st1
    exact .step (hst.trans e) k

theorem crew_keep {Sp : Nat → Prop} {gs : Array Goroutine} {t : Trace} {q : Nat → Nat} (hC : Crew P Sp t gs q) {i : Nat} (hi : Sp i) (g g' : Goroutine) (w' : World) : ∀ j x, ¬ Sp j → gs[j]? = some x → ((gs.map (woken P g g' w')).setIfInBounds i g')[j]? = some x := by
  intro j x hj hx
  rw [Array.getElem?_setIfInBounds_ne (by intro e; subst e; exact hj hi), Array.getElem?_map, hx]
  simp only [Option.map_some]
  rw [woken_quitsD (hC.old j x hj hx)]
theorem woken_stay {g g' o : Goroutine} {w : World} (h : o.again w = o) : woken P g g' w o = o := by
  unfold woken
  split
  · exact h
  · rfl
theorem lt_of_get {gs : Array Goroutine} {i : Nat} {g : Goroutine} (h : gs[i]? = some g) : i < gs.size := (Array.getElem?_eq_some_iff.1 h).1

/-- A step of goroutine 0's own. -/
theorem St.step0 {a' : Goroutine} {w' : World} {hm' : AH} {es : Array Event} (st : St P R F c k tm w0 gs w t q hm hw s r a b) (sl : Option (Nat × Nat)) (hgo : stepG P true a w = .go a' w' es) (z : RunZ (hun (oneC c (.chan 0 #[] false s r tm)) R) (hun hw F) hm w hm' w')
    (hev : ∀ e ∈ es, EvOK hm' (hun (oneC c (.chan 0 #[] false s r tm)) R) e) (hb : b.again w' = b) :
    ∃ gs' ops, runT P (crowd gs w sl) 0 = (.next (crowd gs' w' sl), ops) ∧ St P R F c k tm w0 gs' w' (t ++ ops) q hm' hw s r a' b := by
  have e := runT_crowd_go (P := P) (sl := sl) (i := 0) st.g0 (show stepG P (0 == 0) a w = _ from hgo)
  have hlt := lt_of_get st.g0
  have hltk := lt_of_get st.gk
  obtain ⟨dO, dR⟩ := z.disj.of_hun_right
  obtain ⟨d1, d2⟩ := z.disjF.of_hun
  obtain ⟨d3, d6⟩ := d1.of_hun_right
  have hX : ∀ b, hm' b ≠ none → b < w'.heap.size := fun b hb => absH_lt z.heap (fun e => hb (hun_none (hun_none e).1).1)
  have hRl : ∀ b, hun (oneC c (.chan 0 #[] false s r tm)) R b ≠ none → b < w'.heap.size := fun b hb => absH_lt z.heap (fun e => hb (hun_none (hun_none e).1).2)
  refine ⟨_, _, e, ⟨by simp [hlt], ?_, st.k0, ?_, d3, dR, st.wR, dO, st.wC, st.rC, d6, st.wF, st.rF, st.cF, ?_, ?_, st.env.trans z.env⟩⟩
  · rw [Array.getElem?_setIfInBounds_ne (fun e => st.k0 e.symm), Array.getElem?_map, st.gk]
    simp only [Option.map_some]
    rw [woken_stay hb]
  · rw [z.heap, hun_assoc, hun_assoc, hun_swap st.wR.symm, hun_swap st.wC.symm, hun_swap (b := R) st.rC.symm]
  · exact st.crew.app _ (fun op hop => by rw [g_ofEvents op hop]; exact ⟨.inl rfl, hlt⟩) (by simp) (crew_keep st.crew (.inl rfl) _ _ _)
  · refine (st.duo.grow z.size (W' := fun b => hw b ≠ none) (fun _ _ => Iff.rfl)).app0 st.k0 g_ofEvents ?_ ?_ ?_
    · intro op hop
      obtain ⟨e, he, rfl⟩ := Go.Conc.mem_ofEvents hop
      exact ev_mark (hev e he)
    · intro op hop
      obtain ⟨e, he, rfl⟩ := Go.Conc.mem_ofEvents hop
      exact ((hev e he).low hX hRl).2.2.2
    · intro op hop x hx y hy
      obtain ⟨e, he, rfl⟩ := Go.Conc.mem_ofEvents hop
      rcases ev_touch (hev e he) hx hy with h1 | ⟨h1, h2⟩
      · refine ⟨fun h2 => h2 ((d3 y).resolve_left h1), fun h2 => ?_⟩
        rcases h2 with h2 | h2
        · exact absurd ((dR y).resolve_left h1) h2
        · subst h2
          have := (dO y).resolve_left h1
          rw [oneC_same] at this
          cases this
      · refine ⟨fun h3 => h1 ?_, fun _ => h2⟩
        have hyc : y ≠ c := by
          rintro rfl
          have := (st.wC y).resolve_left h3
          rw [oneC_same] at this
          cases this
        have := (st.wR y).resolve_left h3
        simp [hun, oneC_ne hyc, this]

/-- A step of the worker's own. -/
theorem St.stepk {b' : Goroutine} {w' : World} {hw' : AH} {es : Array Event} (st : St P R F c k tm w0 gs w t q hm hw s r a b) (sl : Option (Nat × Nat)) (hgo : stepG P false b w = .go b' w' es)
    (z : RunZ (hun (oneC c (.chan 0 #[] false s r tm)) R) (hun hm F) hw w hw' w')
    (hev : ∀ e ∈ es, EvOK hw' (hun (oneC c (.chan 0 #[] false s r tm)) R) e) (ha : a.again w' = a) :
    ∃ gs' ops, runT P (crowd gs w sl) k = (.next (crowd gs' w' sl), ops) ∧ St P R F c k tm w0 gs' w' (t ++ ops) q hm hw' s r a b' := by
  have hk0 : (k == 0) = false := by simp [st.k0]
  have e := runT_crowd_go (P := P) (sl := sl) (i := k) st.gk (by rw [hk0]; exact hgo)
  have hlt := lt_of_get st.g0
  have hltk := lt_of_get st.gk
  obtain ⟨dO, dR⟩ := z.disj.of_hun_right
  obtain ⟨d1, d2⟩ := z.disjF.of_hun
  obtain ⟨d3, d6⟩ := d1.of_hun_right
  have hX : ∀ b, hw' b ≠ none → b < w'.heap.size := fun b hb => absH_lt z.heap (fun e => hb (hun_none (hun_none e).1).1)
  have hRl : ∀ b, hun (oneC c (.chan 0 #[] false s r tm)) R b ≠ none → b < w'.heap.size := fun b hb => absH_lt z.heap (fun e => hb (hun_none (hun_none e).1).2)
  refine ⟨_, _, e, ⟨?_, by simp [hltk], st.k0, ?_, d3.symm, st.mR, dR, st.mC, dO, st.rC, st.mF, d6, st.rF, st.cF, ?_, ?_, st.env.trans z.env⟩⟩
  · rw [Array.getElem?_setIfInBounds_ne st.k0, Array.getElem?_map, st.g0]
    simp only [Option.map_some]
    rw [woken_stay ha]
  · rw [z.heap, hun_assoc, hun_assoc, hun_swap st.mR.symm, hun_swap st.mC.symm, hun_swap d3, hun_swap (b := R) st.rC.symm]
  · exact st.crew.app _ (fun op hop => by rw [g_ofEvents op hop]; exact ⟨.inr rfl, hltk⟩) (by simp) (crew_keep st.crew (.inr rfl) _ _ _)
  · refine (st.duo.grow z.size (W' := fun b => hw' b ≠ none) (fun x hx => ⟨fun h => (z.new x h).resolve_right (by omega), fun h => z.grow x h⟩)).appk g_ofEvents ?_ ?_ ?_
    · intro op hop
      obtain ⟨e, he, rfl⟩ := Go.Conc.mem_ofEvents hop
      exact ev_mark (hev e he)
    · intro op hop
      obtain ⟨e, he, rfl⟩ := Go.Conc.mem_ofEvents hop
      exact ((hev e he).low hX hRl).2.2.2
    · intro op hop x hx y hy
      obtain ⟨e, he, rfl⟩ := Go.Conc.mem_ofEvents hop
      rcases ev_touch (hev e he) hx hy with h1 | ⟨h1, h2⟩
      · exact .inl h1
      · refine .inr ⟨?_, h2⟩
        by_cases hyc : y = c
        · exact .inr hyc
        · refine .inl fun e => h1 ?_
          simp [hun, oneC_ne hyc, e]

/-- What the worker sees of what it does not own. -/
def zw (R : AH) (c : Nat) (vs : List Value) : AH := hun (oneC c (gch vs)) (zf R)
theorem lent_g {R : AH} {c : Nat} {g o : Obj} (hR : OnlyRows R) (hRc : R c = none) (h1 : ¬ Obj.noCells g) (h2 : ∀ x e f, g ≠ .cells x e f) (h3 : ∃ k bf cl s r t, o = .chan k bf cl s r t) : Lent (hun (oneC c g) (zf R)) (hun (oneC c o) R) := by
  refine ⟨fun b => ?_, fun b o' h => ?_⟩
  · by_cases hb : b = c
    · subst hb; simp [hun, oneC_same]
    · simp [hun, oneC_ne hb, zf_none]
  · by_cases hb : b = c
    · subst hb
      have e : hun (oneC b g) (zf R) b = some g := by simp [hun, oneC_same]
      rw [e] at h
      cases h
      obtain ⟨k, bf, cl, s, r, t, rfl⟩ := h3
      exact .inr ⟨h1, h2, k, bf, cl, s, r, t, by simp [hun, oneC_same]⟩
    · have e : hun (oneC c g) (zf R) b = zf R b := by simp [hun, oneC_ne hb]
      rw [e] at h
      have e2 : hun (oneC c o) R b = R b := by simp [hun, oneC_ne hb]
      rw [e2]
      exact (lent_zf hR).some b o' h
theorem lent_zw (hR : OnlyRows R) (hRc : R c = none) (vs : List Value) {cl : Bool} (s r : Nat) : Lent (zw R c vs) (hun (oneC c (.chan 0 #[] cl s r tm)) R) :=
  lent_g hR hRc (fun h => h) (fun _ _ _ h => nomatch h) ⟨_, _, _, _, _, _, rfl⟩
/-- .. once it has been seen to be closed. -/
def zx (R : AH) (c : Nat) : AH := hun (oneC c gone) (zf R)
theorem lent_zx (hR : OnlyRows R) (hRc : R c = none) {cl : Bool} (s r : Nat) : Lent (zx R c) (hun (oneC c (.chan 0 #[] cl s r tm)) R) :=
  lent_g hR hRc (fun h => h) (fun _ _ _ h => nomatch h) ⟨_, _, _, _, _, _, rfl⟩
theorem St.run0 {α : Type} {x : Sem α} {K : α → AH → Prop} {E : Value → AH → Prop} (hR : OnlyRows R) (vs : List Value) (st : St P R F c k tm w0 gs w t q hm hw s r a b) (hd : dem P x (hun hm (zw R c vs)) K E) :
    AfterZ P (zw R c vs) (hun (oneC c (.chan 0 #[] false s r tm)) R) (hun hw F) hm x w K E := by
  have hRc : R c = none := (st.rC c).resolve_right (by rw [oneC_same]; simp)
  have cF : Disj (oneC c (.chan 0 #[] false s r tm)) F := by
    intro b
    by_cases hb : b = c
    · subst hb; exact .inr st.cF
    · exact .inl (oneC_ne hb)
  refine dem_runZ (lent_zw hR hRc vs s r) hm w ?_ (st.mC.hun st.mR) (Disj.hun_left (st.mw.hun st.mF) (Disj.hun_left (st.wC.symm.hun cF) (st.wR.symm.hun st.rF))) hd
  rw [st.heap, hun_assoc, hun_assoc, hun_swap st.wR, hun_swap st.wC, hun_swap st.rC]
theorem St.runk {α : Type} {x : Sem α} {K : α → AH → Prop} {E : Value → AH → Prop} (hR : OnlyRows R) (vs : List Value) (st : St P R F c k tm w0 gs w t q hm hw s r a b) (hd : dem P x (hun hw (zw R c vs)) K E) :
    AfterZ P (zw R c vs) (hun (oneC c (.chan 0 #[] false s r tm)) R) (hun hm F) hw x w K E := by
  have hRc : R c = none := (st.rC c).resolve_right (by rw [oneC_same]; simp)
  have cF : Disj (oneC c (.chan 0 #[] false s r tm)) F := by
    intro b
    by_cases hb : b = c
    · subst hb; exact .inr st.cF
    · exact .inl (oneC_ne hb)
  refine dem_runZ (lent_zw hR hRc vs s r) hw w ?_ (st.wC.hun st.wR) (Disj.hun_left (st.mw.symm.hun st.wF) (Disj.hun_left (st.mC.symm.hun cF) (st.mR.symm.hun st.rF))) hd
  rw [st.heap, hun_assoc, hun_assoc, hun_swap st.mw, hun_swap st.mR, hun_swap st.mC, hun_swap st.rC]
end
end Go.HL
